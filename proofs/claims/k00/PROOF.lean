import PyProof.Rows.All
import Wide.All
import OpenK.AllK
import Wide.FinOn
import HandS.ForMost
import HandS.Replace
import HandS.TupAny
import HandS.RaiseMore
import PyProof.TupleOfStr
import KE.GoesMore
import KE.KDictKeyed
import HandS.Lambda
import HandS.ExcInit
import HandS.ExcValue
import HandS.ForDict
import HandS.More
import HandS.DictComp
import HandS.TupMul
import HandS.IsInst
import HandS.Style
import KE.LtData
import HandS.Conv
import PyProof.ReprRoads
import PyProof.StrOps2
import PyProof.ListStr
import HandS.Text
import HandS.Codes
import KE.KRevSl
import KE.SortData
import KE.DataMinMax
import HandS.Zip
import HandS.SetKeys
import PyProof.IsRules
import HandS.Strs
import HandS.SetFor
import HandS.TupLen
import HandS.ClsMeth
import PyProof.AutoSeq1
import KE.KDictCopyH
import HandS.Deep
import HandS.FStr
import HandS.ExcOwn
import KE.KExcInit
import HandS.Defaults
import KE.KNest
import KE.GoesZip
import KE.DatumOrd
import HandS.SortKw
import KE.KNestM
import KE.KExcIs
import PyProof.ReprBulk
import KE.OsRunLaw
import PySem.Challenge.RW_unitlimits_k00_errors_made_by_hand
set_option Elab.async false
set_option linter.all false
set_option maxRecDepth 100000
set_option maxHeartbeats 4000000
namespace Hd
open PySem PySem.W PySem.Calls PyProof.Rows HeadRun
theorem hdSplit {X A B C : Type} {x : Option X} {f : X → A} {g : X → B} {h : X → C} {a : A} {b : B} {c : C} (h1 : x.map f = some a) (h2 : x.map g = some b) (h3 : x.map h = some c) : x.map (fun s => (f s, g s, h s)) = some (a, b, c) := by
  cases x with
  | none => cases h1
  | some s => cases h1; cases h2; cases h3; rfl
theorem hdPair {X A B : Type} {x : Option X} {f : X → A × B} {g : A × B} (h1 : x.map (fun s => (f s).1) = some g.1) (h2 : x.map (fun s => (f s).2) = some g.2) : x.map f = some g := by
  cases x with
  | none => cases h1
  | some s => exact congrArg some (Prod.ext (Option.some.inj h1) (Option.some.inj h2))
theorem hdCast {P Q : Prop} (h : Q) (e : P = Q) : P := Eq.mpr e h
abbrev p : Program := PySem.Challenge.pw_unitlimits_k00_errors_made_by_hand
def q : Program := { p with main := { p.main with body := ([0, 2, 3, 4, 5, 6, 7, 8, 9, 10, 11, 12, 13, 14, 15, 16, 17, 18, 19, 20, 21, 22, 23, 24, 25, 26, 27, 28, 30, 31, 34, 35, 36, 37, 38, 39, 40, 41, 42, 43, 44, 45, 46, 47, 49, 50, 51, 52, 53, 54, 56, 57, 59, 60, 61, 62, 63, 64, 65, 66, 68, 69, 71, 72, 73, 74, 75, 76, 77, 78] : List Nat).filterMap fun i => p.main.body[i]? } }
def loose : List PySem.Str := [PySem.Str.ofString "is_integer_cuts", PySem.Str.ofString "left_cuts", PySem.Str.ofString "is_integer_words", PySem.Str.ofString "Bench", PySem.Str.ofString "KeepBench"]
theorem l1 : ∀ (w : World) (os : OsState), (endF (stepQ (denQ tabQ) p w) 14252 p w os).map (fun s => looksF p (boot_heap w.params) s.abs) = some true := by
  intro w os; kernel_rfl
theorem l2a : ∀ (w : World) (os : OsState), (endF (stepQ (denQ tabQ) p w) 14252 p w os).map (fun s => (seenQ q loose (importedModules p.main.body) (fun s => xlAt q [] s && recOk (RowW.records PySem.Challenge.rw_unitlimits_k00_errors_made_by_hand.row.toRowW) s) s.abs).1) = some (expectedOf q) := by
  intro w os; kernel_rfl
theorem l2b : ∀ (w : World) (os : OsState), (endF (stepQ (denQ tabQ) p w) 14252 p w os).map (fun s => (seenQ q loose (importedModules p.main.body) (fun s => xlAt q [] s && recOk (RowW.records PySem.Challenge.rw_unitlimits_k00_errors_made_by_hand.row.toRowW) s) s.abs).2.1) = some (bltViewBooted) := by
  intro w os; kernel_rfl
theorem l2c : ∀ (w : World) (os : OsState), (endF (stepQ (denQ tabQ) p w) 14252 p w os).map (fun s => (seenQ q loose (importedModules p.main.body) (fun s => xlAt q [] s && recOk (RowW.records PySem.Challenge.rw_unitlimits_k00_errors_made_by_hand.row.toRowW) s) s.abs).2.2.1) = some (true) := by
  intro w os; kernel_rfl
theorem l2d : ∀ (w : World) (os : OsState), (endF (stepQ (denQ tabQ) p w) 14252 p w os).map (fun s => (seenQ q loose (importedModules p.main.body) (fun s => xlAt q [] s && recOk (RowW.records PySem.Challenge.rw_unitlimits_k00_errors_made_by_hand.row.toRowW) s) s.abs).2.2.2.1) = some (true) := by
  intro w os; kernel_rfl
theorem l2e : ∀ (w : World) (os : OsState), (endF (stepQ (denQ tabQ) p w) 14252 p w os).map (fun s => (seenQ q loose (importedModules p.main.body) (fun s => xlAt q [] s && recOk (RowW.records PySem.Challenge.rw_unitlimits_k00_errors_made_by_hand.row.toRowW) s) s.abs).2.2.2.2) = some (pinGoodD (drecsOf q), plainGoodE q (looseW q loose), plainGoodD q loose, wideGood q, clsGoodW q loose) := by
  intro w os; kernel_rfl
theorem l2 (w : World) (os : OsState) : (endF (stepQ (denQ tabQ) p w) 14252 p w os).map (fun s => seenQ q loose (importedModules p.main.body) (fun s => xlAt q [] s && recOk (RowW.records PySem.Challenge.rw_unitlimits_k00_errors_made_by_hand.row.toRowW) s) s.abs) = some (openGood q loose) :=
  hdPair (l2a w os) (hdPair (l2b w os) (hdPair (l2c w os) (hdPair (l2d w os) (l2e w os))))
end Hd
section
open PySem PySem.W PyProof.Rows
local macro_rules | `(tactic| kernel_rfl) => `(tactic| (with_reducible refine Hd.hdSplit ?_ ?_ ?_; (rename_i w os; refine Hd.hdCast (Hd.l1 w os) ?_; kernel_rfl); (rename_i w os; refine Hd.hdCast (Hd.l2 w os) ?_; kernel_rfl); kernel_rfl))
local macro_rules | `(tactic| k_head) => `(tactic| k_headL)
open_top hd for PySem.Challenge.rw_unitlimits_k00_errors_made_by_hand
end
namespace MD
open PySem L2

/-! plain data, slots, the deck's state, the store -/
inductive D where
  | non | bl (b : Bool) | int (i : Int) | str (s : Str) | lst (xs : List D) | tup (xs : List D) | deck
  | dic (ks : List Key) (xs : List D) | ref (n : Nat)
/-! keys without texts, nested -/
mutual
def nkOf : D → Option NestedKey
  | .non => some .none
  | .bl b => some (.num (if b = true then 1 else 0))
  | .int i => some (.num i)
  | .tup ds => (nksOf ds).map .tup
  | .str x => some (.text x)
  | .lst _ => none
  | .deck => none
  | .dic _ _ => none
  | .ref _ => none
def nksOf : List D → Option (List NestedKey)
  | [] => some []
  | d :: ds => (nkOf d).bind fun k => (nksOf ds).map (k :: ·)
end
class WW where
  w : World
  cv : List V := []
  tb : Str → Option Addr := fun _ => none
  cd : Option (Addr × Str) := none
def nent (w : World) (z : NestedKey × Addr × Value) : DictEntry := ⟨z.1.hash w, .ref z.2.1, z.2.2⟩
/-- at a stands a dict with these keys, tuples at these addresses, and values -/
def NkAt [WW] (a : Addr) (zs : List (NestedKey × Addr × Value)) (h : Heap) : Prop :=
  (a == sysModules) = false ∧ zs.length ≤ sizeLine ∧ ∃ o es ep, h.get? a = some o ∧ o.ExactDict ∧ o.data = .dict es ep ∧ es.toList = zs.map (nent WW.w)
variable {ww : WW}
/-- things that change and are known to many: by their number -/
inductive Ob where
  | lst (xs : List D) | dic (lk : Bool) (ks : List Key) (xs : List D) | ins (c : Str) (fs : List Str) (xs : List D) | nkd (ks : List D) (xs : List D) | nkl (ks : List D) (xs : List D) | tab (q : Str) | exc (c : Str)
structure S where
  cells : List Int
  n : Int
  ob : List Ob
/-- what a name alone holds and may change: a list, a dict with these keys -/
inductive Ow where
  | lst | dic (ks : List Key)
def Ow.At (H : Hp) (p : Addr) : Ow → List V → Prop
  | .lst, vs => H p = some (.lst vs)
  | .dic ks, vs => H p = some (.dK (ks.zip vs)) ∧ ks.length = vs.length
theorem Ow.At.some {H : Hp} {p : Addr} : ∀ {w : Ow} {vs : List V}, w.At H p vs → ∃ o, H p = some o
  | .lst, _, h => ⟨_, h⟩
  | .dic _, _, h => ⟨_, h.1⟩
/-- an own thing is not locked -/
theorem Ow.At.keep {H H' : Hp} {p : Addr} (e : ∀ o, H p = Option.some o → H' p = Option.some o) : ∀ {w : Ow} {vs : List V}, w.At H p vs → w.At H' p vs
  | .lst, _, h => e _ h
  | .dic _, _, h => ⟨e _ h.1, h.2⟩
abbrev Own := Ow × List D
inductive Sl where
  | un | val (d : D) | own (xs : Own) | cap (o : Option (List D))
abbrev Sg := List Sl
abbrev Dk := Addr × Addr
abbrev Fg := PySem.W.Frag
/-- the frozen things, and where the store's things stand -/
structure Fz where
  hp : Hp
  mu : List Addr
instance : CoeFun Fz fun _ => Hp := ⟨Fz.hp⟩
def Fz.up (F : Fz) (p : Addr) (o : HO) : Fz := ⟨upd F.hp p o, F.mu⟩
def Fz.out (F : Fz) (p : Addr) : Prop := F.hp p = none ∧ p ∉ F.mu
theorem Fz.up_same {F : Fz} {p : Addr} {o : HO} : F.up p o p = some o := upd_same
theorem Fz.up_ne {F : Fz} {p q : Addr} {o : HO} (h : q ≠ p) : F.up p o q = F q := upd_ne h

mutual
inductive Rp (K : Fg) (dk : Dk) (F : Fz) : V → D → Prop
  | non : Rp K dk F .non .non
  | bl (b : Bool) : Rp K dk F (.bl b) (.bl b)
  | int (i : Int) : Rp K dk F (.int i) (.int i)
  | str (x : Str) : Rp K dk F (.str x) (.str x)
  | lst {a : Addr} {vs : List V} {ds : List D} : F a = some (.lst vs) → Rps K dk F vs ds → Rp K dk F (.ref a) (.lst ds)
  | tup {a : Addr} {vs : List V} {ds : List D} : SqT K F.hp a vs → Rps K dk F vs ds → Rp K dk F (.ref a) (.tup ds)
  | deck : Rp K dk F (.ref dk.1) .deck
  | dic {a : Addr} {ks : List Key} {vs : List V} {ds : List D} : F a = some (.dK (ks.zip vs)) → ks.length = vs.length → Rps K dk F vs ds → Rp K dk F (.ref a) (.dic ks ds)
  | ref {a : Addr} {n : Nat} : F.mu[n]? = some a → Rp K dk F (.ref a) (.ref n)
inductive Rps (K : Fg) (dk : Dk) (F : Fz) : List V → List D → Prop
  | nil : Rps K dk F [] []
  | cons {v : V} {vs : List V} {d : D} {ds : List D} : Rp K dk F v d → Rps K dk F vs ds → Rps K dk F (v :: vs) (d :: ds)
end

/-- a heap that keeps another's things -/
def Lh (F F' : Hp) : Prop := ∀ a o, F a = some o → F' a = some o
theorem Lh.refl (F : Hp) : Lh F F := fun _ _ h => h
theorem Lh.trans {A B C : Hp} (x : Lh A B) (y : Lh B C) : Lh A C := fun a o h => y a o (x a o h)
theorem Lh.rd {F F' : Hp} {a : Addr} {u : HO} (e : Lh F F') (h : Rd F a u) : Rd F' a u := by
  rcases h with h | ⟨o, h⟩
  · exact .inl (e _ _ h)
  · exact .inr ⟨o, e _ _ h⟩
theorem Lh.sqT {K : Fg} {F F' : Hp} {a : Addr} {xs : List V} (e : Lh F F') (h : SqT K F a xs) : SqT K F' a xs := by
  rcases h with h | h
  · exact .inl (e.rd h)
  · exact .inr h
theorem Lh.free {F F' : Hp} {a : Addr} (e : Lh F F') (h : F' a = none) : F a = none := by
  cases q : F a with
  | none => rfl
  | some o => rw [e _ _ q] at h; cases h
theorem Lh.new {F : Hp} {p : Addr} {o : HO} (h : F p = none) : Lh F (upd F p o) := fun a u e => by
  rw [upd_ne (ne_of_none e h)]; exact e
/-- more is frozen, more stands in the store -/
structure Le (F F' : Fz) : Prop where
  h : Lh F.hp F'.hp
  m : ∃ l, F'.mu = F.mu ++ l
theorem Le.refl (F : Fz) : Le F F := ⟨Lh.refl _, [], by simp⟩
theorem Le.trans {A B C : Fz} (x : Le A B) (y : Le B C) : Le A C := ⟨x.h.trans y.h, by
  obtain ⟨l, e⟩ := x.m
  obtain ⟨l', e'⟩ := y.m
  exact ⟨l ++ l', by rw [e', e, List.append_assoc]⟩⟩
theorem Le.sqT {K : Fg} {F F' : Fz} {a : Addr} {xs : List V} (e : Le F F') (h : SqT K F.hp a xs) : SqT K F'.hp a xs := e.h.sqT h
theorem Le.new {F : Fz} {p : Addr} {o : HO} (h : F p = none) : Le F (F.up p o) := ⟨Lh.new h, [], by simp [Fz.up]⟩
theorem Le.at {F F' : Fz} (e : Le F F') {n : Nat} {a : Addr} (h : F.mu[n]? = some a) : F'.mu[n]? = some a := by
  obtain ⟨l, e⟩ := e.m
  rw [e, List.getElem?_append_left (by
    by_cases hl : n < F.mu.length
    · exact hl
    · rw [List.getElem?_eq_none (by omega)] at h; cases h)]
  exact h
theorem Le.mem {F F' : Fz} (e : Le F F') {a : Addr} (h : a ∈ F.mu) : a ∈ F'.mu := by
  obtain ⟨l, e⟩ := e.m
  rw [e]; exact List.mem_append_left _ h
/-- what is frozen stands in the heap; a dict may be locked -/
def Sb (F : Fz) (H : Hp) : Prop := ∀ a o, F a = some o → H a = some o ∨ ∃ od kvs, o = .dK kvs ∧ H a = some (.frz od o)
section
variable {F F' : Fz} {H H' : Hp} {K : Fg} {a : Addr}
theorem Sb.lst {vs : List V} (s : Sb F H) (h : F a = some (.lst vs)) : H a = some (.lst vs) := by
  rcases s a _ h with z | ⟨od, kvs, z, _⟩
  · exact z
  · cases z
theorem Sb.dK {kvs : List (Key × V)} (s : Sb F H) (h : F a = some (.dK kvs)) : Rd H a (.dK kvs) := by
  rcases s a _ h with z | ⟨od, _, _, z⟩
  · exact .inl z
  · exact .inr ⟨od, z⟩
theorem Sb.sqT {xs : List V} (s : Sb F H) (h : SqT K F.hp a xs) : SqT K H a xs := by
  rcases h with h | h
  · rcases h with h | ⟨o, h⟩
    · rcases s a _ h with z | ⟨_, _, z, _⟩
      · exact .inl (.inl z)
      · cases z
    · rcases s a _ h with z | ⟨_, _, z, _⟩
      · exact .inl (.inr ⟨o, z⟩)
      · cases z
  · exact .inr h
theorem Sb.free (s : Sb F H) (h : H a = none) : F a = none := by
  cases q : F a with
  | none => rfl
  | some o =>
    rcases s a _ q with z | ⟨_, _, _, z⟩ <;> rw [z] at h <;> cases h
theorem Sb.some (s : Sb F H) {o : HO} (h : F a = some o) : H a ≠ none := fun z => by rw [s.free z] at h; cases h
theorem Le.sb (e : Le F F') (s : Sb F' H) : Sb F H := fun a o h => s a o (e.h a o h)
theorem Sb.lh (s : Sb F H) (e : Lh H H') : Sb F H' := fun a o h => by
  rcases s a o h with z | ⟨od, kvs, z1, z⟩
  · exact .inl (e _ _ z)
  · exact .inr ⟨od, kvs, z1, e _ _ z⟩
end

mutual
theorem Rp.mono {K : Fg} {dk : Dk} {F F' : Fz} (e : Le F F') : ∀ {v : V} {d : D}, Rp K dk F v d → Rp K dk F' v d
  | _, _, .non => .non
  | _, _, .bl b => .bl b
  | _, _, .int i => .int i
  | _, _, .str x => .str x
  | _, _, .lst h r => .lst (e.h _ _ h) (Rps.mono e r)
  | _, _, .tup h r => .tup (e.sqT h) (Rps.mono e r)
  | _, _, .deck => .deck
  | _, _, .dic h l r => .dic (e.h _ _ h) l (Rps.mono e r)
  | _, _, .ref h => .ref (e.at h)
theorem Rps.mono {K : Fg} {dk : Dk} {F F' : Fz} (e : Le F F') : ∀ {vs : List V} {ds : List D}, Rps K dk F vs ds → Rps K dk F' vs ds
  | _, _, .nil => .nil
  | _, _, .cons a b => .cons (Rp.mono e a) (Rps.mono e b)
end

section
variable {K : Fg} {dk : Dk} {F F' : Fz} {H H' : Hp}
theorem Rps.length : ∀ {vs : List V} {ds : List D}, Rps K dk F vs ds → vs.length = ds.length
  | _, _, .nil => rfl
  | _, _, .cons _ r => by simp [Rps.length r]
theorem Rps.get : ∀ {vs : List V} {ds : List D} {i : Nat} {d : D}, Rps K dk F vs ds → ds[i]? = some d → ∃ v, vs[i]? = some v ∧ Rp K dk F v d
  | _, _, _, _, .nil, e => by simp at e
  | _, _, 0, _, .cons a _, e => by simp at e; subst e; exact ⟨_, rfl, a⟩
  | _, _, i + 1, _, .cons _ r, e => by
    obtain ⟨v, h1, h2⟩ := Rps.get (i := i) r (by simpa using e)
    exact ⟨v, by simpa using h1, h2⟩
theorem Rps.getV : ∀ {vs : List V} {ds : List D} {i : Nat} {v : V}, Rps K dk F vs ds → vs[i]? = some v → ∃ d, ds[i]? = some d ∧ Rp K dk F v d
  | _, _, _, _, .nil, e => by simp at e
  | _, _, 0, _, .cons a _, e => by simp at e; subst e; exact ⟨_, rfl, a⟩
  | _, _, i + 1, _, .cons _ r, e => by
    obtain ⟨v, h1, h2⟩ := Rps.getV (i := i) r (by simpa using e)
    exact ⟨v, by simpa using h1, h2⟩
theorem Rps.append : ∀ {vs us : List V} {ds es : List D}, Rps K dk F vs ds → Rps K dk F us es → Rps K dk F (vs ++ us) (ds ++ es)
  | _, _, _, _, .nil, s => s
  | _, _, _, _, .cons a r, s => .cons a (Rps.append r s)
theorem Rps.take : ∀ {vs : List V} {ds : List D} (n : Nat), Rps K dk F vs ds → Rps K dk F (vs.take n) (ds.take n)
  | _, _, 0, _ => .nil
  | _, _, _ + 1, .nil => .nil
  | _, _, n + 1, .cons a r => .cons a (Rps.take n r)
theorem Rps.drop : ∀ {vs : List V} {ds : List D} (n : Nat), Rps K dk F vs ds → Rps K dk F (vs.drop n) (ds.drop n)
  | _, _, 0, r => r
  | _, _, _ + 1, .nil => .nil
  | _, _, n + 1, .cons _ r => Rps.drop n r
theorem Rps.set {v : V} {d : D} (r : Rp K dk F v d) : ∀ {vs : List V} {ds : List D} (n : Nat), Rps K dk F vs ds → Rps K dk F (vs.set n v) (ds.set n d)
  | _, _, _, .nil => .nil
  | _, _, 0, .cons _ t => .cons r t
  | _, _, n + 1, .cons a t => .cons a (Rps.set r n t)
theorem Rps.one {v : V} {d : D} (r : Rp K dk F v d) : Rps K dk F [v] [d] := .cons r .nil

/-! the store's things -/
def clsOf (K : Fg) (c : Str) : Option Addr := match PySem.W.nsIn K mainGlobals c with
  | some (some (.ref C)) => some C
  | _ => none
inductive ObAt [WW] (K : Fg) (dk : Dk) (F : Fz) (H : Hp) (a : Addr) : Ob → Prop
  | lst {vs : List V} {ds : List D} : H a = some (.lst vs) → Rps K dk F vs ds → ObAt K dk F H a (.lst ds)
  | dic {ks : List Key} {vs : List V} {ds : List D} : H a = some (.dK (ks.zip vs)) → ks.length = vs.length → Rps K dk F vs ds → ObAt K dk F H a (.dic false ks ds)
  | lck {od : Obj} {ks : List Key} {vs : List V} {ds : List D} : H a = some (.frz od (.dK (ks.zip vs))) → ks.length = vs.length → Rps K dk F vs ds → ObAt K dk F H a (.dic true ks ds)
  | ins {c : Str} {C dx : Addr} {fs : List Str} {vs : List V} {ds : List D} : clsOf K c = some C → H a = some (.ins C dx (fs.zip vs)) → fs.length = vs.length → Rps K dk F vs ds → ObAt K dk F H a (.ins c fs ds)
  | nkd {zs : List (NestedKey × Addr × Value)} {vs : List V} {ks ds : List D} : H a = some (.ext (NkAt a zs)) → Rps K dk F (zs.map fun z => V.ref z.2.1) ks → ks.map nkOf = zs.map (fun z => some z.1) →
      Vals vs (zs.map fun z => z.2.2) → Rps K dk F vs ds → (zs.map fun z => z.1).Nodup → (∀ z ∈ zs, z.1.depth ≤ 8) → ObAt K dk F H a (.nkd ks ds)
  | nkl {od : Obj} {zs : List (NestedKey × Addr × Value)} {vs : List V} {ks ds : List D} : H a = some (.frz od (.ext (NkAt a zs))) → Rps K dk F (zs.map fun z => V.ref z.2.1) ks → ks.map nkOf = zs.map (fun z => some z.1) →
      Vals vs (zs.map fun z => z.2.2) → Rps K dk F vs ds → (zs.map fun z => z.1).Nodup → (∀ z ∈ zs, z.1.depth ≤ 8) → ObAt K dk F H a (.nkl ks ds)
  | tab {q : Str} {ps : Array Value} : WW.tb q = some a → H a = some (.tbl ps) → TriplesOk ps.toList → (∀ (pos : Pos) (cv : Value), codeAmong pos ps.toList = some cv → ∃ c, cv = .ref c ∧ F c = some (LamX.CodeO c q)) → ObAt K dk F H a (.tab q)
  | exc {c : Str} {C d : Addr} {fs : List (Str × V)} : clsOf K c = some C → H a = some (L2.exo a C (some d)) → F d = some (L2.exd d fs) → ObAt K dk F H a (.exc c)
  | exc0 {c : Str} {C : Addr} : clsOf K c = some C → H a = some (L2.ExO (.ref C) a) → ObAt K dk F H a (.exc c)
theorem ObAt.some {a : Addr} {o : Ob} (h : ObAt K dk F H a o) : H a ≠ none := by
  intro z
  cases h with
  | lst h _ => rw [h] at z; cases z
  | dic h _ _ => rw [h] at z; cases z
  | lck h _ _ => rw [h] at z; cases z
  | ins _ h _ _ => rw [h] at z; cases z
  | nkd h _ _ _ _ _ _ => rw [h] at z; cases z
  | nkl h _ _ _ _ _ _ => rw [h] at z; cases z
  | tab _ h _ _ => rw [h] at z; cases z
  | exc _ h _ => rw [h] at z; cases z
  | exc0 _ h => rw [h] at z; cases z
theorem ObAt.keep {a : Addr} {o : Ob} (h : ObAt K dk F H a o) (e : ∀ o, H a = Option.some o → H' a = Option.some o) (le : Le F F') : ObAt K dk F' H' a o := by
  cases h with
  | lst h r => exact .lst (e _ h) (r.mono le)
  | dic h l r => exact .dic (e _ h) l (r.mono le)
  | lck h l r => exact .lck (e _ h) l (r.mono le)
  | ins c h l r => exact .ins c (e _ h) l (r.mono le)
  | nkd h k q v r n d => exact .nkd (e _ h) (k.mono le) q v (r.mono le) n d
  | nkl h k q v r n d => exact .nkl (e _ h) (k.mono le) q v (r.mono le) n d
  | tab b h t c =>
    refine .tab b (e _ h) t fun pos cv hc => ?_
    obtain ⟨x, e1, e2⟩ := c pos cv hc
    exact ⟨x, e1, le.h _ _ e2⟩
  | exc c h r => exact .exc c (e _ h) (le.h _ _ r)
  | exc0 c h => exact .exc0 c (e _ h)

structure Wd [WW] (K : Fg) (dk : Dk) (F : Fz) (H : Hp) (st : S) : Prop where
  sub : Sb F H
  d1 : H dk.1 = some (.lst [.ref dk.2, .int st.n])
  d2 : H dk.2 = some (.lst (st.cells.map V.int))
  f1 : F.out dk.1
  f2 : F.out dk.2
  ne : dk.1 ≠ dk.2
  ml : F.mu.length = st.ob.length
  nd : F.mu.Nodup
  ob : ∀ (n : Nat) (a : Addr) (o : Ob), F.mu[n]? = some a → st.ob[n]? = some o → F a = none ∧ ObAt K dk F H a o
theorem Wd.mu {st : S} (w : Wd K dk F H st) {a : Addr} (h : a ∈ F.mu) : ∃ (n : Nat) (o : Ob), F.mu[n]? = some a ∧ st.ob[n]? = some o ∧ F a = none ∧ ObAt K dk F H a o := by
  obtain ⟨n, hn, e⟩ := List.getElem_of_mem h
  have hn' : n < st.ob.length := by rw [← w.ml]; exact hn
  have e1 : F.mu[n]? = some a := by rw [List.getElem?_eq_getElem hn, e]
  have e2 := List.getElem?_eq_getElem hn'
  exact ⟨n, _, e1, e2, w.ob n a _ e1 e2⟩
theorem Wd.nomu {st : S} (w : Wd K dk F H st) {a : Addr} (h : H a = none) : a ∉ F.mu := fun z => by
  obtain ⟨n, o, _, _, _, q⟩ := w.mu z
  exact q.some h
theorem Wd.out {st : S} (w : Wd K dk F H st) {a : Addr} (h : H a = none) : F.out a := ⟨w.sub.free h, w.nomu h⟩

/-- locked -/
def Fro (o : HO) : Prop := ∃ od u, o = .frz od u
structure Ext (dk : Dk) (F : Fz) (H : Hp) (F' : Fz) (H' : Hp) : Prop where
  h : ∀ a o, H a = some o → a ≠ dk.1 → a ≠ dk.2 → a ∉ F.mu ∨ Fro o → H' a = some o
  f : Le F F'
  n : ∀ a, F a = none → H a ≠ none → F' a = none
  m : ∀ a, H a ≠ none → H' a ≠ none
  u : ∀ a, a ∈ F'.mu → a ∈ F.mu ∨ H a = none
  k : ∀ a o, H' a = some o → Fro o → H a = some o
theorem Ext.refl (F : Fz) (H : Hp) : Ext dk F H F H := ⟨fun _ _ h _ _ _ => h, Le.refl F, fun _ h _ => h, fun _ h => h, fun _ h => .inl h, fun _ _ h _ => h⟩
theorem Ext.trans {A : Fz} {B : Hp} {F1 : Fz} {H1 : Hp} {F2 : Fz} {H2 : Hp} (x : Ext dk A B F1 H1) (y : Ext dk F1 H1 F2 H2) : Ext dk A B F2 H2 :=
  ⟨fun a o h n1 n2 n3 => y.h a o (x.h a o h n1 n2 n3) n1 n2 (n3.imp (fun n3 z => by
      rcases x.u a z with q | q
      · exact n3 q
      · rw [q] at h; cases h) id),
    x.f.trans y.f, fun a h1 h2 => y.n a (x.n a h1 h2) (x.m a h2), fun a h => y.m a (x.m a h), fun a h => by
      rcases y.u a h with q | q
      · exact x.u a q
      · refine .inr ?_
        cases w : B a with
        | none => rfl
        | some o => exact absurd q (x.m a (by rw [w]; exact fun z => nomatch z)), fun a o h f => x.k a o (y.k a o h f) f⟩
theorem Ext.out (x : Ext dk F H F' H') {a : Addr} (h : F.out a) (h2 : H a ≠ none) : F'.out a := ⟨x.n a h.1 h2, fun z => by
  rcases x.u a z with q | q
  · exact h.2 q
  · exact h2 q⟩
theorem Ext.back (x : Ext dk F H F' H') {a : Addr} (h : H' a = none) : H a = none := by
  cases w : H a with
  | none => rfl
  | some o => exact absurd h (x.m a (by rw [w]; exact fun z => nomatch z))

/-- an operation that keeps all and only lays new things -/
structure Px (F : Fz) (H : Hp) (F' : Fz) (H' : Hp) : Prop where
  h : Lh H H'
  f : Le F F'
  n : ∀ a, F a = none → H a ≠ none → F' a = none
  s : Sb F' H'
  m : F'.mu = F.mu
  k : ∀ a o, H' a = some o → Fro o → H a = some o
theorem Px.refl (s : Sb F H) : Px F H F H := ⟨Lh.refl H, Le.refl F, fun _ h _ => h, s, rfl, fun _ _ h _ => h⟩
theorem Px.ext (x : Px F H F' H') : Ext dk F H F' H' := ⟨fun a o e _ _ _ => x.h a o e, x.f, x.n, fun a h z => h (x.h.free z), fun a h => .inl (by rw [x.m] at h; exact h), x.k⟩
theorem nn {o : Option HO} {u : HO} (h : o = some u) : o ≠ none := by rw [h]; exact fun z => nomatch z
theorem Px.wd {st : S} (x : Px F H F' H') (w : Wd K dk F H st) : Wd K dk F' H' st :=
  ⟨x.s, x.h _ _ w.d1, x.h _ _ w.d2, ⟨x.n _ w.f1.1 (nn w.d1), by rw [x.m]; exact w.f1.2⟩, ⟨x.n _ w.f2.1 (nn w.d2), by rw [x.m]; exact w.f2.2⟩, w.ne, by rw [x.m]; exact w.ml, by rw [x.m]; exact w.nd,
    fun n a o h1 h2 => by
      rw [x.m] at h1
      obtain ⟨q1, q2⟩ := w.ob n a o h1 h2
      exact ⟨x.n _ q1 q2.some, q2.keep (fun o e => x.h _ _ e) x.f⟩⟩
theorem Px.trans {F2 : Fz} {H2 : Hp} (x : Px F H F' H') (y : Px F' H' F2 H2) : Px F H F2 H2 :=
  ⟨x.h.trans y.h, x.f.trans y.f, fun a h1 h2 => y.n a (x.n a h1 h2) (fun z => h2 (x.h.free z)), y.s, y.m.trans x.m, fun a o h f => x.k a o (y.k a o h f) f⟩
theorem updK {p : Addr} {o : HO} (nf : ¬ Fro o) (a : Addr) (u : HO) (h : upd H p o a = some u) (f : Fro u) : H a = some u := by
  by_cases na : a = p
  · subst na; rw [upd_same] at h; cases h; exact absurd f nf
  · rw [upd_ne na] at h; exact h
/-- a new frozen thing -/
theorem Px.new {p : Addr} {o : HO} (s : Sb F H) (hp : H p = none) (nf : ¬ Fro o := by rintro ⟨_, _, z⟩; cases z) : Px F H (F.up p o) (upd H p o) := by
  have fp : F p = none := s.free hp
  refine ⟨Lh.new hp, Le.new fp, fun a h1 h2 => ?_, fun a u e => ?_, rfl, updK nf⟩
  · have na : a ≠ p := fun z => h2 (z ▸ hp)
    rw [Fz.up_ne na]; exact h1
  · by_cases na : a = p
    · subst na
      rw [Fz.up_same] at e
      rw [upd_same]; exact .inl e
    · rw [Fz.up_ne na] at e; rw [upd_ne na]; exact s a u e
/-- a new thing that is not frozen -/
theorem Px.lay {p : Addr} {o : HO} (s : Sb F H) (hp : H p = none) (nf : ¬ Fro o := by rintro ⟨_, _, z⟩; cases z) : Px F H F (upd H p o) :=
  ⟨Lh.new hp, Le.refl F, fun _ h _ => h, s.lh (Lh.new hp), rfl, updK nf⟩

/-- data as it stands in this heap, whoever holds it -/
inductive Rw (K : Fg) (dk : Dk) (F : Fz) (H : Hp) : V → D → Prop
  | rp {v : V} {d : D} : Rp K dk F v d → Rw K dk F H v d
  | lst {p : Addr} {vs : List V} {ds : List D} : H p = some (.lst vs) → Rps K dk F vs ds → Rw K dk F H (.ref p) (.lst ds)
  | dic {p : Addr} {ks : List Key} {vs : List V} {ds : List D} : Rd H p (.dK (ks.zip vs)) → ks.length = vs.length → Rps K dk F vs ds → Rw K dk F H (.ref p) (.dic ks ds)
/-- data that stays while other things are worked out: frozen, or a name's own -/
inductive Ry (K : Fg) (dk : Dk) (F : Fz) (H : Hp) : V → D → Prop
  | rp {v : V} {d : D} : Rp K dk F v d → Ry K dk F H v d
  | lst {p : Addr} {vs : List V} {ds : List D} : H p = some (.lst vs) → p ≠ dk.1 → p ≠ dk.2 → p ∉ F.mu → Rps K dk F vs ds → Ry K dk F H (.ref p) (.lst ds)
  | dic {p : Addr} {ks : List Key} {vs : List V} {ds : List D} : Rd H p (.dK (ks.zip vs)) → p ≠ dk.1 → p ≠ dk.2 → p ∉ F.mu → ks.length = vs.length → Rps K dk F vs ds → Ry K dk F H (.ref p) (.dic ks ds)
theorem Ext.nmu (x : Ext dk F H F' H') {a : Addr} (h : a ∉ F.mu) (h2 : H a ≠ none) : a ∉ F'.mu := fun z => by
  rcases x.u a z with q | q
  · exact h q
  · exact h2 q
theorem rdn {a : Addr} {u : HO} (h : Rd H a u) : H a ≠ none := by
  rcases h with h | ⟨o, h⟩ <;> exact nn h
theorem Ext.rd (x : Ext dk F H F' H') {a : Addr} {u : HO} (h : Rd H a u) (n1 : a ≠ dk.1) (n2 : a ≠ dk.2) (n3 : a ∉ F.mu) : Rd H' a u := by
  rcases h with h | ⟨o, h⟩
  · exact .inl (x.h _ _ h n1 n2 (.inl n3))
  · exact .inr ⟨o, x.h _ _ h n1 n2 (.inl n3)⟩
theorem Ry.ext {v : V} {d : D} (r : Ry K dk F H v d) (x : Ext dk F H F' H') : Ry K dk F' H' v d := by
  cases r with
  | rp r => exact .rp (r.mono x.f)
  | lst h n1 n2 n3 r => exact .lst (x.h _ _ h n1 n2 (.inl n3)) n1 n2 (x.nmu n3 (nn h)) (r.mono x.f)
  | dic h n1 n2 n3 l r => exact .dic (x.rd h n1 n2 n3) n1 n2 (x.nmu n3 (rdn h)) l (r.mono x.f)
theorem Ry.w {v : V} {d : D} (r : Ry K dk F H v d) : Rw K dk F H v d := by
  cases r with
  | rp r => exact .rp r
  | lst h n1 n2 n3 r => exact .lst h r
  | dic h n1 n2 n3 l r => exact .dic h l r
inductive Rws (K : Fg) (dk : Dk) (F : Fz) (H : Hp) : List V → List D → Prop
  | nil : Rws K dk F H [] []
  | cons {v : V} {vs : List V} {d : D} {ds : List D} : Rw K dk F H v d → Rws K dk F H vs ds → Rws K dk F H (v :: vs) (d :: ds)
inductive Rys (K : Fg) (dk : Dk) (F : Fz) (H : Hp) : List V → List D → Prop
  | nil : Rys K dk F H [] []
  | cons {v : V} {vs : List V} {d : D} {ds : List D} : Ry K dk F H v d → Rys K dk F H vs ds → Rys K dk F H (v :: vs) (d :: ds)
theorem Rys.ext (x : Ext dk F H F' H') : ∀ {vs : List V} {ds : List D}, Rys K dk F H vs ds → Rys K dk F' H' vs ds
  | _, _, .nil => .nil
  | _, _, .cons a b => .cons (a.ext x) (Rys.ext x b)
/-- what a thing of the store is at this time -/
def dr (st : S) : D → D
  | .ref n => match st.ob[n]? with
    | some (.lst ds) => .lst ds
    | some (.dic _ ks ds) => .dic ks ds
    | _ => .ref n
  | d => d
theorem Ry.dr {v : V} {d : D} {st : S} (r : Ry K dk F H v d) (w : Wd K dk F H st) : Rw K dk F H v (dr st d) := by
  cases d with
  | ref n =>
    cases r with
    | rp r =>
      cases r with
      | ref h =>
        unfold MD.dr
        dsimp only
        split
        · rename_i ho
          obtain ⟨_, q⟩ := w.ob n _ _ h ho
          cases q with
          | lst h r => exact .lst h r
        · rename_i ho
          obtain ⟨_, q⟩ := w.ob n _ _ h ho
          cases q with
          | dic h l r => exact .dic (.inl h) l r
          | lck h l r => exact .dic (.inr ⟨_, h⟩) l r
        · exact .rp (.ref h)
  | _ => exact r.w
theorem Rys.dr {st : S} (w : Wd K dk F H st) : ∀ {vs : List V} {ds : List D}, Rys K dk F H vs ds → Rws K dk F H vs (ds.map (dr st))
  | _, _, .nil => .nil
  | _, _, .cons a b => .cons (a.dr w) (Rys.dr w b)
/-- a list in H, whoever owns it -/
theorem Rw.l {v : V} {ds : List D} (s : Sb F H) (r : Rw K dk F H v (.lst ds)) : ∃ p vs, v = .ref p ∧ H p = some (.lst vs) ∧ Rps K dk F vs ds := by
  cases r with
  | rp r => cases r with
    | lst h r => exact ⟨_, _, rfl, s.lst h, r⟩
  | lst h r => exact ⟨_, _, rfl, h, r⟩
theorem Rw.d {v : V} {ks : List Key} {ds : List D} (s : Sb F H) (r : Rw K dk F H v (.dic ks ds)) : ∃ p vs, v = .ref p ∧ Rd H p (.dK (ks.zip vs)) ∧ ks.length = vs.length ∧ Rps K dk F vs ds := by
  cases r with
  | rp r => cases r with
    | dic h l r => exact ⟨_, _, rfl, s.dK h, l, r⟩
  | dic h l r => exact ⟨_, _, rfl, h, l, r⟩
theorem Rw.tp {v : V} {ds : List D} (r : Rw K dk F H v (.tup ds)) : Rp K dk F v (.tup ds) := by
  cases r with
  | rp r => exact r
theorem Rw.tup {v : V} {ds : List D} (s : Sb F H) (r : Rw K dk F H v (.tup ds)) : ∃ p vs, v = .ref p ∧ SqT K H p vs ∧ Rps K dk F vs ds := by
  cases r.tp with
  | tup h r => exact ⟨_, _, rfl, s.sqT h, r⟩
theorem Rw.int {v : V} {i : Int} (r : Rw K dk F H v (.int i)) : v = .int i := by
  cases r with
  | rp r => cases r; rfl
theorem Rw.str {v : V} {x : Str} (r : Rw K dk F H v (.str x)) : v = .str x := by
  cases r with
  | rp r => cases r; rfl
theorem Rw.bl {v : V} {b : Bool} (r : Rw K dk F H v (.bl b)) : v = .bl b := by
  cases r with
  | rp r => cases r; rfl
theorem Rw.non {v : V} (r : Rw K dk F H v .non) : v = .non := by
  cases r with
  | rp r => cases r; rfl
theorem Rw.isNon {v : V} {d : D} (r : Rw K dk F H v d) : decide (v = .non) = (match d with | .non => true | _ => false) := by
  cases r with
  | rp r => cases r <;> rfl
  | lst _ _ => rfl
  | dic _ _ _ => rfl

/-! slots -/
def SlOk [WW] (K : Fg) (dk : Dk) (F : Fz) (H H0 : Hp) (v : Option V) : Sl → Prop
  | .un => True
  | .val d => ∃ x, v = some x ∧ Rp K dk F x d
  | .cap none => v = WW.cv.head? ∧ ∀ c q, WW.cd = some (c, q) → F c = some (LamX.CodeO c q)
  | .cap (some ds) => Rps K dk F WW.cv.tail ds
  | .own w => ∃ p vs, v = some (.ref p) ∧ w.1.At H p vs ∧ F.out p ∧ H0 p = none ∧ p ≠ dk.1 ∧ p ≠ dk.2 ∧ Rps K dk F vs w.2
structure Good [WW] (K : Fg) (dk : Dk) (H0 : Hp) (F0 F : Fz) (σ : L2.St) (H : Hp) (env : Sg) (st : S) : Prop where
  wd : Wd K dk F H st
  ext : Ext dk F0 H0 F H
  len : σ.length = env.length
  sl : ∀ (i : Nat) (s : Sl), env[i]? = some s → SlOk K dk F H H0 (σ[i]?).join s
  dis : ∀ (i j : Nat) (ds es : Own) (p : Addr), i ≠ j → env[i]? = some (.own ds) → env[j]? = some (.own es) → σ[i]? = some (some (.ref p)) → σ[j]? ≠ some (some (.ref p))
theorem Good.step {H0 : Hp} {F0 : Fz} {σ : L2.St} {env : Sg} {st st' : S} (g : Good K dk H0 F0 F σ H env st) (x : Ext dk F H F' H') (w : Wd K dk F' H' st') : Good K dk H0 F0 F' σ H' env st' := by
  refine ⟨w, g.ext.trans x, g.len, fun i s e => ?_, g.dis⟩
  have q := g.sl i s e
  cases s with
  | un => trivial
  | val d => obtain ⟨v, h1, h2⟩ := q; exact ⟨v, h1, h2.mono x.f⟩
  | cap o =>
    cases o with
    | none => exact ⟨q.1, fun c y hc => x.f.h _ _ (q.2 c y hc)⟩
    | some ds => exact Rps.mono x.f q
  | own ds =>
    obtain ⟨p, vs, h1, h2, h3, h4, h5, h6, h7⟩ := q
    exact ⟨p, vs, h1, h2.keep fun o e => x.h _ _ e h5 h6 (.inl h3.2), x.out h3 (by obtain ⟨o, ho⟩ := h2.some; exact nn ho), h4, h5, h6, h7.mono x.f⟩
theorem Good.px {H0 : Hp} {F0 : Fz} {σ : L2.St} {env : Sg} {st : S} (g : Good K dk H0 F0 F σ H env st) (x : Px F H F' H') : Good K dk H0 F0 F' σ H' env st := g.step x.ext (x.wd g.wd)
end
end MD

set_option Elab.async false
set_option linter.all false
set_option maxRecDepth 100000
set_option maxHeartbeats 1000000
namespace MD
open PySem L2
variable {ww : WW}

abbrev ME := Sg → S → Option (D × S)
abbrev MT := Sg → S → Option (Bool × S)
abbrev MA := Sg → S → Option (List D × S)

section
variable (K : Fg)
def Im [WW] (te : TE) (f : ME) : Prop := ∀ (dk : Dk) (H0 : Hp) (F0 F : Fz) (σ : L2.St) (H : Hp) (env : Sg) (st : S) (d : D) (st' : S), Good K dk H0 F0 F σ H env st → f env st = some (d, st') →
  ∀ Q : VK, (∀ v F' H', Ext dk F H F' H' → Good K dk H0 F0 F' σ H' env st' → Rp K dk F' v d → Q v H') → te σ H Q
def ImW [WW] (te : TE) (f : ME) : Prop := ∀ (dk : Dk) (H0 : Hp) (F0 F : Fz) (σ : L2.St) (H : Hp) (env : Sg) (st : S) (d : D) (st' : S), Good K dk H0 F0 F σ H env st → f env st = some (d, st') →
  ∀ Q : VK, (∀ v F' H', Ext dk F H F' H' → Good K dk H0 F0 F' σ H' env st' → Ry K dk F' H' v d → Q v H') → te σ H Q
def ImF [WW] (te : TE) (f : MA) : Prop := ∀ (dk : Dk) (H0 : Hp) (F0 F : Fz) (σ : L2.St) (H : Hp) (env : Sg) (st : S) (ds : List D) (st' : S), Good K dk H0 F0 F σ H env st → f env st = some (ds, st') →
  ∀ Q : VK, (∀ p vs F' H', Ext dk F H F' H' → Good K dk H0 F0 F' σ H' env st' → H p = none → F'.out p → H' p = some (.lst vs) → Rps K dk F' vs ds → Q (.ref p) H') → te σ H Q
def ImT [WW] (tt : TT) (f : MT) : Prop := ∀ (dk : Dk) (H0 : Hp) (F0 F : Fz) (σ : L2.St) (H : Hp) (env : Sg) (st : S) (b : Bool) (st' : S), Good K dk H0 F0 F σ H env st → f env st = some (b, st') →
  ∀ Q : Bool → Hp → Prop, (∀ F' H', Ext dk F H F' H' → Good K dk H0 F0 F' σ H' env st' → Q b H') → tt σ H Q
def ImA [WW] (ta : TA) (f : MA) : Prop := ∀ (dk : Dk) (H0 : Hp) (F0 F : Fz) (σ : L2.St) (H : Hp) (env : Sg) (st : S) (ds : List D) (st' : S), Good K dk H0 F0 F σ H env st → f env st = some (ds, st') →
  ∀ Q : List V → Hp → Prop, (∀ vs F' H', Ext dk F H F' H' → Good K dk H0 F0 F' σ H' env st' → Rps K dk F' vs ds → Q vs H') → ta σ H Q
def ImAW [WW] (ta : TA) (f : MA) : Prop := ∀ (dk : Dk) (H0 : Hp) (F0 F : Fz) (σ : L2.St) (H : Hp) (env : Sg) (st : S) (ds : List D) (st' : S), Good K dk H0 F0 F σ H env st → f env st = some (ds, st') →
  ∀ Q : List V → Hp → Prop, (∀ vs F' H', Ext dk F H F' H' → Good K dk H0 F0 F' σ H' env st' → Rys K dk F' H' vs ds → Q vs H') → ta σ H Q
end

theorem bnd {α β : Type} {o : Option α} {f : α → Option β} {b : β} (h : o.bind f = some b) : ∃ a, o = some a ∧ f a = some b := by
  cases o with
  | none => cases h
  | some a => exact ⟨a, rfl, h⟩
theorem mpd {α β : Type} {o : Option α} {f : α → β} {b : β} (h : o.map f = some b) : ∃ a, o = some a ∧ f a = b := by
  cases o with
  | none => cases h
  | some a => exact ⟨a, rfl, Option.some.inj h⟩

section
variable {K : Fg} {dk : Dk} {F F' F0 : Fz} {H H' H0 : Hp} {σ : L2.St} {env : Sg} {st : S}
theorem Good.fresh0 (g : Good K dk H0 F0 F σ H env st) {p : Addr} (hp : H p = none) : H0 p = none := by
  cases q : H0 p with
  | none => rfl
  | some o => exact absurd hp (g.ext.m p (by rw [q]; exact fun z => nomatch z))
theorem Good.nedk (g : Good K dk H0 F0 F σ H env st) {p : Addr} (hp : H p = none) : p ≠ dk.1 ∧ p ≠ dk.2 :=
  ⟨fun z => (by rw [z, g.wd.d1] at hp; cases hp), fun z => (by rw [z, g.wd.d2] at hp; cases hp)⟩
theorem join_eq {x : Option (Option V)} {v : V} (h : x.join = some v) : x = some (some v) := by
  cases x with
  | none => cases h
  | some y => cases y with
    | none => cases h
    | some z => rw [show z = v from Option.some.inj h]
theorem Good.noown (g : Good K dk H0 F0 F σ H env st) {p : Addr} (hp : H p = none) : ∀ (i : Nat) (ds : Own), env[i]? = some (.own ds) → σ[i]? ≠ some (some (.ref p)) := fun i ds e z => by
  obtain ⟨q, vs, h1, h2, _⟩ := g.sl i _ e
  have h3 := join_eq h1
  rw [z] at h3
  cases h3
  obtain ⟨o, ho⟩ := h2.some
  rw [hp] at ho; cases ho
/-- what is nobody's own may be frozen -/
theorem Wd.freeze {p : Addr} {o : HO} (w : Wd K dk F H st) (hp : H p = some o) (fp : F.out p) (n1 : p ≠ dk.1) (n2 : p ≠ dk.2) : Wd K dk (F.up p o) H st := by
  have le : Le F (F.up p o) := Le.new fp.1
  refine ⟨fun a u e => ?_, w.d1, w.d2, ⟨by rw [Fz.up_ne n1.symm]; exact w.f1.1, w.f1.2⟩, ⟨by rw [Fz.up_ne n2.symm]; exact w.f2.1, w.f2.2⟩, w.ne, w.ml, w.nd, fun n a u h1 h2 => ?_⟩
  · by_cases na : a = p
    · subst na; rw [Fz.up_same] at e; rw [← e]; exact .inl hp
    · rw [Fz.up_ne na] at e; exact w.sub a u e
  · obtain ⟨q1, q2⟩ := w.ob n a u h1 h2
    have na : a ≠ p := fun z => fp.2 (z ▸ List.mem_of_getElem? h1)
    exact ⟨by rw [Fz.up_ne na]; exact q1, q2.keep (fun _ e => e) le⟩
theorem Good.freeze {p : Addr} {o : HO} (g : Good K dk H0 F0 F σ H env st) (hp : H p = some o) (fp : F.out p) (h0 : H0 p = none) (n1 : p ≠ dk.1) (n2 : p ≠ dk.2)
    (no : ∀ (i : Nat) (ds : Own), env[i]? = some (.own ds) → σ[i]? ≠ some (some (.ref p))) : Good K dk H0 F0 (F.up p o) σ H env st := by
  have le : Le F (F.up p o) := Le.new fp.1
  refine ⟨g.wd.freeze hp fp n1 n2, ⟨g.ext.h, g.ext.f.trans le, fun a h1 h2 => ?_, g.ext.m, g.ext.u, g.ext.k⟩, g.len, fun i s e => ?_, g.dis⟩
  · have na : a ≠ p := fun z => h2 (z ▸ h0)
    rw [Fz.up_ne na]; exact g.ext.n a h1 h2
  · have q := g.sl i s e
    cases s with
    | un => trivial
    | val d => obtain ⟨v, h1, h2⟩ := q; exact ⟨v, h1, h2.mono le⟩
    | cap o =>
      cases o with
      | none => exact ⟨q.1, fun c y hc => le.h _ _ (q.2 c y hc)⟩
      | some ds => exact Rps.mono le q
    | own ds =>
      obtain ⟨r, vs, h1, h2, h3, h4, h5, h6, h7⟩ := q
      have nr : r ≠ p := fun z => no i ds e (by rw [← z]; exact join_eq h1)
      exact ⟨r, vs, h1, h2, ⟨by rw [Fz.up_ne nr]; exact h3.1, h3.2⟩, h4, h5, h6, h7.mono le⟩
theorem Ext.freeze {p : Addr} {o : HO} (x : Ext dk F H F' H') (hp : H p = none) (fp : F'.out p) : Ext dk F H (F'.up p o) H' :=
  ⟨x.h, x.f.trans (Le.new fp.1), fun a h1 h2 => by
    have na : a ≠ p := fun z => h2 (z ▸ hp)
    rw [Fz.up_ne na]; exact x.n a h1 h2, x.m, x.u, x.k⟩

theorem Im.w {te : TE} {f : ME} (h : Im K te f) : ImW K te f := fun dk H0 F0 F σ H env st d st' g e Q q =>
  h dk H0 F0 F σ H env st d st' g e Q fun v F' H' x g' r => q v F' H' x g' (.rp r)
def frz (f : MA) : ME := fun env st => (f env st).map fun p => (.lst p.1, p.2)
theorem ImF.im {te : TE} {f : MA} (h : ImF K te f) : Im K te (frz f) := fun dk H0 F0 F σ H env st d st' g e Q q => by
  obtain ⟨⟨ds, s1⟩, h1, h2⟩ := mpd e
  cases h2
  refine h dk H0 F0 F σ H env st ds s1 g h1 Q fun p vs F' H' x g' hp fp hl r => ?_
  have nd := g.nedk hp
  have le : Le F' (Fz.up F' p (.lst vs)) := Le.new fp.1
  exact q (.ref p) (Fz.up F' p (.lst vs)) H' (x.freeze hp fp) (g'.freeze hl fp (g.fresh0 hp) nd.1 nd.2 (g.noown hp)) (.lst Fz.up_same (r.mono le))
theorem ImF.w {te : TE} {f : MA} (h : ImF K te f) : ImW K te (frz f) := h.im.w

/-! names, constants -/
def rd (i : Nat) : ME := fun env st => match env[i]? with
  | some (.val d) => some (d, st)
  | _ => none
def rdW (i : Nat) : ME := fun env st => match env[i]? with
  | some (.val d) => some (d, st)
  | some (.own (.lst, ds)) => some (.lst ds, st)
  | some (.own (.dic ks, ds)) => some (.dic ks ds, st)
  | _ => none
theorem im_var (i : Nat) : Im K (tVar i) (rd i) := fun dk H0 F0 F σ H env st d st' g e Q q => by
  unfold rd at e
  split at e
  · rename_i d' he
    cases e
    obtain ⟨v, h1, h2⟩ := g.sl i _ he
    exact ⟨v, join_eq h1, q v F H (Ext.refl F H) g h2⟩
  · cases e
theorem im_own (i : Nat) : ImW K (tVar i) (rdW i) := fun dk H0 F0 F σ H env st d st' g e Q q => by
  unfold rdW at e
  split at e
  · rename_i d' he
    cases e
    obtain ⟨v, h1, h2⟩ := g.sl i _ he
    exact ⟨v, join_eq h1, q v F H (Ext.refl F H) g (.rp h2)⟩
  · rename_i ds he
    cases e
    obtain ⟨p, vs, h1, h2, h3, h4, h5, h6, h7⟩ := g.sl i _ he
    exact ⟨.ref p, join_eq h1, q (.ref p) F H (Ext.refl F H) g (.lst h2 h5 h6 h3.2 h7)⟩
  · rename_i ks ds he
    cases e
    obtain ⟨p, vs, h1, h2, h3, h4, h5, h6, h7⟩ := g.sl i _ he
    exact ⟨.ref p, join_eq h1, q (.ref p) F H (Ext.refl F H) g (.dic (.inl h2.1) h5 h6 h3.2 h2.2 h7)⟩
  · cases e
def cst (d : D) : ME := fun _ st => some (d, st)
/-- a value that stands for itself in every heap -/
def Rc (K : Fg) (v : V) (d : D) : Prop := ∀ dk F, Rp K dk F v d
theorem im_c {v : V} {d : D} (h : Rc K v d) : Im K (tC v) (cst d) := fun dk H0 F0 F σ H env st d' st' g e Q q => by
  cases e
  exact q v F H (Ext.refl F H) g (h dk F)
theorem im_int {i : Int} : Im K (tC (.int i)) (cst (.int i)) := im_c fun _ _ => .int i
theorem im_str {i : Str} : Im K (tC (.str i)) (cst (.str i)) := im_c fun _ _ => .str i
theorem im_bl {i : Bool} : Im K (tC (.bl i)) (cst (.bl i)) := im_c fun _ _ => .bl i
theorem im_non : Im K (tC .non) (cst .non) := im_c fun _ _ => .non

/-! two-place operations on values -/
def RO [WW] (K : Fg) (r : R2) (f : D → D → Option D) : Prop := ∀ (dk : Dk) (F : Fz) (H : Hp) (st : S) (x y : V) (d e z : D), Wd K dk F H st → Rw K dk F H x d → Rw K dk F H y e → f d e = some z →
  ∀ Q : VK, (∀ v F' H', Px F H F' H' → Rp K dk F' v z → Q v H') → r x y H Q
def ROF [WW] (K : Fg) (r : R2) (f : D → D → Option (List D)) : Prop := ∀ (dk : Dk) (F : Fz) (H : Hp) (st : S) (x y : V) (d e : D) (z : List D), Wd K dk F H st → Rw K dk F H x d → Rw K dk F H y e → f d e = some z →
  ∀ Q : VK, (∀ p vs, H p = none → Rps K dk F vs z → Q (.ref p) (upd H p (.lst vs))) → r x y H Q
def opM (f : D → D → Option D) (fa fb : ME) : ME := fun env st => (fa env st).bind fun p => (fb env p.2).bind fun q => (f (dr q.2 p.1) (dr q.2 q.1)).map fun z => (z, q.2)
def opF (f : D → D → Option (List D)) (fa fb : ME) : MA := fun env st => (fa env st).bind fun p => (fb env p.2).bind fun q => (f (dr q.2 p.1) (dr q.2 q.1)).map fun z => (z, q.2)
theorem im_op {r : R2} {f : D → D → Option D} {ta tb : TE} {fa fb : ME} (hr : RO K r f) (ha : ImW K ta fa) (hb : ImW K tb fb) : Im K (tOp r ta tb) (opM f fa fb) := fun dk H0 F0 F σ H env st d st' g e Q q => by
  obtain ⟨⟨x, s1⟩, h1, e⟩ := bnd e
  obtain ⟨⟨y, s2⟩, h2, e⟩ := bnd e
  obtain ⟨z, h3, e⟩ := mpd e
  cases e
  refine ha dk H0 F0 F σ H env st x s1 g h1 _ fun v F1 H1 x1 g1 r1 => ?_
  refine hb dk H0 F0 F1 σ H1 env s1 y s2 g1 h2 _ fun u F2 H2 x2 g2 r2 => ?_
  exact hr dk F2 H2 s2 v u _ _ d g2.wd ((r1.ext x2).dr g2.wd) (r2.dr g2.wd) h3 Q fun w F3 H3 px r3 => q w F3 H3 ((x1.trans x2).trans px.ext) (g2.px px) r3
theorem im_opF {r : R2} {f : D → D → Option (List D)} {ta tb : TE} {fa fb : ME} (hr : ROF K r f) (ha : ImW K ta fa) (hb : ImW K tb fb) : ImF K (tOp r ta tb) (opF f fa fb) := fun dk H0 F0 F σ H env st d st' g e Q q => by
  obtain ⟨⟨x, s1⟩, h1, e⟩ := bnd e
  obtain ⟨⟨y, s2⟩, h2, e⟩ := bnd e
  obtain ⟨z, h3, e⟩ := mpd e
  cases e
  refine ha dk H0 F0 F σ H env st x s1 g h1 _ fun v F1 H1 x1 g1 r1 => ?_
  refine hb dk H0 F0 F1 σ H1 env s1 y s2 g1 h2 _ fun u F2 H2 x2 g2 r2 => ?_
  refine hr dk F2 H2 s2 v u _ _ d g2.wd ((r1.ext x2).dr g2.wd) (r2.dr g2.wd) h3 Q fun p vs hp r3 => ?_
  have x12 := x1.trans x2
  have h0 : H p = none := by
    cases w : H p with
    | none => rfl
    | some o => exact absurd hp (x12.m p (by rw [w]; exact fun z => nomatch z))
  have px : Px F2 H2 F2 (upd H2 p (.lst vs)) := Px.lay g2.wd.sub hp
  exact q p vs F2 _ (x12.trans px.ext) (g2.px px) h0 (g2.wd.out hp) upd_same r3
theorem RO.or {r r' : R2} {f f' : D → D → Option D} (h : RO K r f) (h' : RO K r' f') : RO K (fun x y H Q => r x y H Q ∨ r' x y H Q) (fun d e => (f d e).orElse fun _ => f' d e) := by
  intro dk F H st x y d e z w rx ry hz Q q
  replace hz : ((f d e).orElse fun _ => f' d e) = some z := hz
  cases hf : f d e with
  | some y' =>
    rw [hf] at hz
    have : some y' = some z := hz
    cases this
    exact .inl (h dk F H st x y d e z w rx ry hf Q q)
  | none =>
    rw [hf] at hz
    exact .inr (h' dk F H st x y d e z w rx ry hz Q q)
theorem ROF.ro {r : R2} {f : D → D → Option (List D)} (h : ROF K r f) : RO K r (fun d e => (f d e).map D.lst) := by
  intro dk F H st x y d e z w rx ry hz Q q
  obtain ⟨ds, h1, h2⟩ := mpd hz
  subst h2
  refine h dk F H st x y d e ds w rx ry h1 Q fun p vs hp r => ?_
  have px : Px F H (Fz.up F p (.lst vs)) (upd H p (.lst vs)) := Px.new w.sub hp
  exact q (.ref p) _ _ px (.lst Fz.up_same (r.mono px.f))

/-! ints -/
def iI (g : Int → Int → D) : D → D → Option D
  | .int i, .int j => some (g i j)
  | _, _ => none
def iIC (C : Int → Int → Prop) [∀ i j, Decidable (C i j)] (g : Int → Int → D) : D → D → Option D
  | .int i, .int j => if C i j then some (g i j) else none
  | _, _ => none
theorem ro_I0 {g : Int → Int → V} {g' : Int → Int → D} (h : ∀ i j, Rc K (g i j) (g' i j)) : RO K (rI0 g) (iI g') := by
  intro dk F H st x y d e z w rx ry hz Q q
  unfold iI at hz
  split at hz
  · rename_i i j
    cases hz
    cases rx.int
    cases ry.int
    exact ⟨i, j, rfl, rfl, q _ F H (Px.refl w.sub) (h i j dk F)⟩
  · cases hz
theorem ro_I {C : Int → Int → Prop} [∀ i j, Decidable (C i j)] {g : Int → Int → V} {g' : Int → Int → D} (h : ∀ i j, Rc K (g i j) (g' i j)) : RO K (rI C g) (iIC C g') := by
  intro dk F H st x y d e z w rx ry hz Q q
  unfold iIC at hz
  split at hz
  · rename_i i j
    split at hz
    · rename_i hc
      cases hz
      cases rx.int
      cases ry.int
      exact ⟨i, j, rfl, rfl, hc, q _ F H (Px.refl w.sub) (h i j dk F)⟩
    · cases hz
  · cases hz
theorem rc_int (i : Int) : Rc K (.int i) (.int i) := fun _ _ => .int i
theorem rc_bl (i : Bool) : Rc K (.bl i) (.bl i) := fun _ _ => .bl i
theorem rc_str (i : Str) : Rc K (.str i) (.str i) := fun _ _ => .str i
instance : ∀ i j, Decidable (CMul i j) := fun i j => by unfold CMul; exact inferInstance
instance : ∀ i j, Decidable (CDiv i j) := fun i j => by unfold CDiv; exact inferInstance
instance : ∀ i j, Decidable (CPow i j) := fun i j => by unfold CPow; exact inferInstance

/-! + -/
def strCat : D → D → Option D
  | .str i, .str j => if i.length + j.length ≤ sizeLine then some (.str (i ++ j)) else none
  | _, _ => none
def tupCat : D → D → Option D
  | .tup i, .tup j => if i.length + j.length ≤ sizeLine then some (.tup (i ++ j)) else none
  | _, _ => none
def lstCat : D → D → Option (List D)
  | .lst i, .lst j => if i.length + j.length ≤ sizeLine then some (i ++ j) else none
  | _, _ => none
theorem ro_strCat : RO K (fun x y H Q => ∃ i j, x = .str i ∧ y = .str j ∧ i.length + j.length ≤ sizeLine ∧ Q (.str (i ++ j)) H) strCat := by
  intro dk F H st x y d e z w rx ry hz Q q
  unfold strCat at hz
  split at hz
  · rename_i i j
    split at hz
    · rename_i hc
      cases hz
      exact ⟨i, j, rx.str, ry.str, hc, q _ F H (Px.refl w.sub) (.str _)⟩
    · cases hz
  · cases hz
theorem ro_tupCat : RO K (rCatA K) tupCat := by
  intro dk F H st x y d e z w rx ry hz Q q
  unfold tupCat at hz
  split at hz
  · rename_i i j
    split at hz
    · rename_i hc
      cases hz
      obtain ⟨p, vs, e1, h1, r1⟩ := rx.tup w.sub
      obtain ⟨p2, vs2, e2, h2, r2⟩ := ry.tup w.sub
      refine ⟨p, p2, vs, vs2, e1, e2, h1, h2, by rw [r1.length, r2.length]; exact hc, fun z => ?_, fun _ z => ?_, fun _ _ a ha => ?_⟩
      · subst z
        cases r1
        subst e2
        exact q _ F H (Px.refl w.sub) ry.tp
      · subst z
        cases r2
        subst e1
        rw [List.append_nil] at q
        exact q _ F H (Px.refl w.sub) rx.tp
      · have px : Px F H (Fz.up F a (.tup (vs ++ vs2))) (upd H a (.tup (vs ++ vs2))) := Px.new w.sub ha
        exact q _ _ _ px (.tup (SqT.of Fz.up_same) ((r1.append r2).mono px.f))
    · cases hz
  · cases hz
theorem rof_lstCat : ROF K rCat lstCat := by
  intro dk F H st x y d e z w rx ry hz Q q
  unfold lstCat at hz
  split at hz
  · rename_i i j
    split at hz
    · rename_i hc
      cases hz
      obtain ⟨p, vs, e1, h1, r1⟩ := rx.l w.sub
      obtain ⟨p2, vs2, e2, h2, r2⟩ := ry.l w.sub
      exact ⟨p, p2, vs, vs2, e1, e2, h1, h2, by rw [r1.length, r2.length]; exact hc, fun a ha => q a _ ha (r1.append r2)⟩
    · cases hz
  · cases hz
end
end MD

set_option Elab.async false
set_option linter.all false
set_option maxRecDepth 100000
set_option maxHeartbeats 1000000
namespace MD
open PySem L2
variable {ww : WW}

/-! ### data as the library's -/
mutual
def D.py : D → PyData
  | .non => .none
  | .bl b => .bool b
  | .int i => .int i
  | .str s => .str s
  | .lst xs => .list (pyAll xs)
  | .tup xs => .tuple (pyAll xs)
  | .deck => .none
  | .dic _ _ => .none
  | .ref _ => .none
def pyAll : List D → List PyData
  | [] => []
  | x :: xs => D.py x :: pyAll xs
end
mutual
def D.pl : D → Bool
  | .lst xs => plAll xs
  | .tup xs => plAll xs
  | .deck => false
  | .dic _ _ => false
  | .ref _ => false
  | _ => true
def plAll : List D → Bool
  | [] => true
  | x :: xs => D.pl x && plAll xs
end
mutual
theorem Rp.dp {K : Fg} {dk : Dk} {F : Fz} {H : Hp} (le : Sb F H) : ∀ {v : V} {d : D}, Rp K dk F v d → d.pl = true → Dp K H v d.py
  | _, _, .non, _ => .non
  | _, _, .bl b, _ => .bl b
  | _, _, .int i, _ => .int i
  | _, _, .str x, _ => .str x
  | _, _, .lst h r, p => .lst (SqL.of (le.lst h)) (Rps.dp le r (by simpa [D.pl] using p))
  | _, _, .tup h r, p => .tup (le.sqT h) (Rps.dp le r (by simpa [D.pl] using p))
  | _, _, .deck, p => by simp [D.pl] at p
  | _, _, .dic _ _ _, p => by simp [D.pl] at p
  | _, _, .ref _, p => by simp [D.pl] at p
theorem Rps.dp {K : Fg} {dk : Dk} {F : Fz} {H : Hp} (le : Sb F H) : ∀ {vs : List V} {ds : List D}, Rps K dk F vs ds → plAll ds = true → DpAll K H vs (pyAll ds)
  | _, _, .nil, _ => .nil
  | _, _, .cons a b, p => by
    rw [plAll, Bool.and_eq_true] at p
    exact .cons (Rp.dp le a p.1) (Rps.dp le b p.2)
end
section
variable {K : Fg} {dk : Dk} {F F' F0 : Fz} {H H' H0 : Hp} {σ : L2.St} {env : Sg} {st : S}
theorem Rw.dp (le : Sb F H) {v : V} {d : D} (r : Rw K dk F H v d) (p : d.pl = true) : Dp K H v d.py := by
  cases r with
  | rp r => exact r.dp le p
  | lst h r => exact .lst (SqL.of h) (r.dp le (by simpa [D.pl] using p))
  | dic _ _ _ => simp [D.pl] at p

/-! ### == -/
def sEq : D → D → Option Bool
  | .non, .non => some true
  | .non, .int _ => some false | .int _, .non => some false
  | .non, .str _ => some false | .str _, .non => some false
  | .int i, .int j => some (decide (i = j))
  | .bl i, .bl j => some (decide (i = j))
  | .str i, .str j => some (decide (i = j))
  | _, _ => none
def okD (d : D) : Bool := d.pl && SeqAt.shaped d.py
def eqB (d e : D) : Option Bool := match sEq d e with
  | some b => some b
  | none => if okD d && okD e then some (PyData.eqv d.py e.py) else none
def eqM (d e : D) : Option D := (eqB d e).map D.bl
def neM (d e : D) : Option D := (eqB d e).map fun b => D.bl (!b)
theorem dec_congr {p q : Prop} [Decidable p] [Decidable q] (h : p ↔ q) : decide p = decide q := by
  by_cases hp : p
  · rw [decide_eq_true hp, decide_eq_true (h.mp hp)]
  · rw [decide_eq_false hp, decide_eq_false fun z => hp (h.mpr z)]
theorem sEq_ok {x y : V} {d e : D} {b : Bool} (rx : Rw K dk F H x d) (ry : Rw K dk F H y e) (h : sEq d e = some b) : scal x y = true ∧ decide (x = y) = b := by
  unfold sEq at h
  split at h <;> cases h
  · cases rx.non; cases ry.non; exact ⟨rfl, rfl⟩
  · cases rx.non; cases ry.int; exact ⟨rfl, rfl⟩
  · cases rx.int; cases ry.non; exact ⟨rfl, rfl⟩
  · cases rx.non; cases ry.str; exact ⟨rfl, rfl⟩
  · cases rx.str; cases ry.non; exact ⟨rfl, rfl⟩
  · cases rx.int; cases ry.int; exact ⟨rfl, dec_congr ⟨fun z => V.int.inj z, fun z => by rw [z]⟩⟩
  · cases rx.bl; cases ry.bl; exact ⟨rfl, dec_congr ⟨fun z => V.bl.inj z, fun z => by rw [z]⟩⟩
  · cases rx.str; cases ry.str; exact ⟨rfl, dec_congr ⟨fun z => V.str.inj z, fun z => by rw [z]⟩⟩
def rEqA (K : Fg) : R2 := fun x y H Q => rEq x y H Q ∨ rEqD K x y H Q
def rNeA (K : Fg) : R2 := fun x y H Q => rNe x y H Q ∨ rNeD K x y H Q
theorem OpR.or {X : Cx} {f : Value → Value → Sem Value} {r r' : R2} (h : OpR X f r) (h' : OpR X f r') : OpR X f (fun x y H Q => r x y H Q ∨ r' x y H Q) := by
  intro pins s σ H x y v u Q I rx ry q
  rcases q with q | q
  · exact h pins s σ H x y v u Q I rx ry q
  · exact h' pins s σ H x y v u Q I rx ry q
theorem eqB_ok {x y : V} {d e : D} {b : Bool} (le : Sb F H) (rx : Rw K dk F H x d) (ry : Rw K dk F H y e) (h : eqB d e = some b) :
    (scal x y = true ∧ decide (x = y) = b) ∨ ∃ d e, Dp K H x d ∧ Dp K H y e ∧ SeqAt.shaped d = true ∧ SeqAt.shaped e = true ∧ PyData.eqv d e = b := by
  unfold eqB at h
  split at h
  · rename_i b' hb
    cases h
    exact .inl (sEq_ok rx ry hb)
  · split at h
    · rename_i ho
      cases h
      rw [Bool.and_eq_true, okD, okD, Bool.and_eq_true, Bool.and_eq_true] at ho
      exact .inr ⟨d.py, e.py, rx.dp le ho.1.1, ry.dp le ho.2.1, ho.1.2, ho.2.2, rfl⟩
    · cases h
theorem ro_eq : RO K (rEqA K) eqM := by
  intro dk F H st x y d e z w rx ry hz Q q
  obtain ⟨b, hb, rfl⟩ := mpd hz
  have q0 := q (.bl b) F H (Px.refl w.sub) (.bl b)
  rcases eqB_ok w.sub rx ry hb with ⟨h1, h2⟩ | ⟨d', e', h1, h2, h3, h4, h5⟩
  · exact .inl ⟨h1, by rw [h2]; exact q0⟩
  · exact .inr ⟨d', e', h1, h2, h3, h4, by rw [h5]; exact q0⟩
theorem ro_ne : RO K (rNeA K) neM := by
  intro dk F H st x y d e z w rx ry hz Q q
  obtain ⟨b, hb, rfl⟩ := mpd hz
  have q0 := q (.bl (!b)) F H (Px.refl w.sub) (.bl (!b))
  rcases eqB_ok w.sub rx ry hb with ⟨h1, h2⟩ | ⟨d', e', h1, h2, h3, h4, h5⟩
  · exact .inl ⟨h1, by rw [h2]; exact q0⟩
  · exact .inr ⟨d', e', h1, h2, h3, h4, by rw [h5]; exact q0⟩
theorem op_eqA {X : Cx} (hu : X.A.units + 64 < cLine) : OpR X (compareOp .Eq) (rEqA X.K) := OpR.or op_eq (op_eqD hu)
theorem op_neA {X : Cx} (hu : X.A.units + 64 < cLine) : OpR X (compareOp .NotEq) (rNeA X.K) := OpR.or op_ne (op_neD hu)

/-! ### is None -/
def nonD : D → Bool
  | .non => true
  | _ => false
def isM : D → D → Option D
  | d, .non => some (.bl (nonD d))
  | _, _ => none
def isNotM : D → D → Option D
  | d, .non => some (.bl (!nonD d))
  | _, _ => none
theorem Rw.isN {v : V} {d : D} (r : Rw K dk F H v d) : decide (v = .non) = nonD d := by
  rw [r.isNon]; cases d <;> rfl
theorem ro_is : RO K (fun x y H Q => y = .non ∧ Q (.bl (decide (x = .non))) H) isM := by
  intro dk F H st x y d e z w rx ry hz Q q
  unfold isM at hz
  split at hz
  · cases hz
    exact ⟨ry.non, by rw [rx.isN]; exact q _ F H (Px.refl w.sub) (.bl _)⟩
  · cases hz
theorem ro_isNot : RO K (fun x y H Q => y = .non ∧ Q (.bl (!decide (x = .non))) H) isNotM := by
  intro dk F H st x y d e z w rx ry hz Q q
  unfold isNotM at hz
  split at hz
  · cases hz
    exact ⟨ry.non, by rw [rx.isN]; exact q _ F H (Px.refl w.sub) (.bl _)⟩
  · cases hz

/-! ### in -/
def signOf (a : Str) : Option Nat := match a.cps.toList with
  | [c] => some c
  | _ => none
theorem signOf_eq {a : Str} {c : Nat} (h : signOf a = some c) : a = ⟨#[c]⟩ := by
  unfold signOf at h
  split at h
  · rename_i c' hc
    cases h
    obtain ⟨⟨l⟩⟩ := a
    have : l = [c] := hc
    rw [this]
  · cases h
def inSign : D → D → Option D
  | .str a, .str z => (signOf a).map fun c => .bl (decide (c ∈ z.cps.toList))
  | _, _ => none
def notInSign : D → D → Option D
  | .str a, .str z => (signOf a).map fun c => .bl (!decide (c ∈ z.cps.toList))
  | _, _ => none
theorem ro_inSign : RO K (fun x y H Q => ∃ (c : Nat) (z : Str), x = .str ⟨#[c]⟩ ∧ y = .str z ∧ Q (.bl (decide (c ∈ z.cps.toList))) H) inSign := by
  intro dk F H st x y d e z w rx ry hz Q q
  unfold inSign at hz
  split at hz
  · obtain ⟨c, hc, rfl⟩ := mpd hz
    exact ⟨c, _, by rw [rx.str, signOf_eq hc], ry.str, q _ F H (Px.refl w.sub) (.bl _)⟩
  · cases hz
theorem ro_notInSign : RO K (fun x y H Q => ∃ (c : Nat) (z : Str), x = .str ⟨#[c]⟩ ∧ y = .str z ∧ Q (.bl (!decide (c ∈ z.cps.toList))) H) notInSign := by
  intro dk F H st x y d e z w rx ry hz Q q
  unfold notInSign at hz
  split at hz
  · obtain ⟨c, hc, rfl⟩ := mpd hz
    exact ⟨c, _, by rw [rx.str, signOf_eq hc], ry.str, q _ F H (Px.refl w.sub) (.bl _)⟩
  · cases hz
def flatD : D → Bool
  | .non => true | .bl _ => true | .int _ => true | .str _ => true
  | _ => false
def eqFD : D → D → Bool
  | .non, .non => true
  | .bl a, .bl b => a == b
  | .bl a, .int b => (if a then 1 else 0) == b
  | .int a, .bl b => a == (if b then 1 else 0)
  | .int a, .int b => a == b
  | .str a, .str b => a == b
  | _, _ => false
theorem Rp.flat {v : V} {d : D} (r : Rp K dk F v d) (h : flatD d = true) : flatV v = true := by
  cases r <;> first | rfl | cases h
theorem Rp.eqF {v u : V} {d e : D} (r : Rp K dk F v d) (r' : Rp K dk F u e) (h : flatD d = true) (h' : flatD e = true) : eqV v u = eqFD d e := by
  cases r <;> first | (cases r' <;> first | rfl | cases h') | cases h
theorem Rw.flat {v : V} {d : D} (r : Rw K dk F H v d) (h : flatD d = true) : Rp K dk F v d := by
  cases r with
  | rp r => exact r
  | lst _ _ => cases h
  | dic _ _ _ => cases h
def inB (x : D) (ys : List D) : Bool := ys.any fun y => eqFD y x
theorem Rps.inV {x : V} {d : D} (r : Rp K dk F x d) (h : flatD d = true) : ∀ {vs : List V} {ds : List D}, Rps K dk F vs ds → ds.all flatD = true → vs.all flatV = true ∧ L2.inV x vs = inB d ds
  | _, _, .nil, _ => ⟨rfl, rfl⟩
  | _, _, .cons a b, p => by
    rw [List.all_cons, Bool.and_eq_true] at p
    obtain ⟨h1, h2⟩ := Rps.inV r h b p.2
    refine ⟨by rw [List.all_cons, a.flat p.1, h1]; rfl, ?_⟩
    unfold L2.inV inB at h2 ⊢
    rw [List.any_cons, List.any_cons, h2, a.eqF r p.1 h]
def inSeq (neg : Bool) : D → D → Option D
  | x, .lst ds => if flatD x && ds.all flatD then some (.bl (if neg then !inB x ds else inB x ds)) else none
  | x, .tup ds => if flatD x && ds.all flatD then some (.bl (if neg then !inB x ds else inB x ds)) else none
  | _, _ => none
theorem ro_inSeq (neg : Bool) : RO K (rIn K neg) (inSeq neg) := by
  intro dk F H st x y d e z w rx ry hz Q q
  unfold inSeq at hz
  split at hz
  · split at hz
    · rename_i ho
      cases hz
      rw [Bool.and_eq_true] at ho
      obtain ⟨p, vs, rfl, hl, r⟩ := ry.l w.sub
      have rx' := rx.flat ho.1
      obtain ⟨h1, h2⟩ := r.inV rx' ho.1 ho.2
      exact ⟨p, vs, rfl, .inl (SqL.of hl), rx'.flat ho.1, h1, by rw [h2]; exact q _ F H (Px.refl w.sub) (.bl _)⟩
    · cases hz
  · split at hz
    · rename_i ho
      cases hz
      rw [Bool.and_eq_true] at ho
      obtain ⟨p, vs, rfl, hl, r⟩ := ry.tup w.sub
      have rx' := rx.flat ho.1
      obtain ⟨h1, h2⟩ := r.inV rx' ho.1 ho.2
      exact ⟨p, vs, rfl, .inr hl, rx'.flat ho.1, h1, by rw [h2]; exact q _ F H (Px.refl w.sub) (.bl _)⟩
    · cases hz
  · cases hz

/-! ### a[i] -/
theorem Rps.atI {vs : List V} {ds : List D} {i : Int} {d : D} (r : Rps K dk F vs ds) (h : L2.atI ds i = some d) : ∃ v, L2.atI vs i = some v ∧ Rp K dk F v d := by
  unfold L2.atI at h ⊢
  obtain ⟨j, h1, h2⟩ := bnd h
  obtain ⟨v, h3, h4⟩ := r.get h2
  exact ⟨v, by rw [r.length, h1]; exact h3, h4⟩
def ixM : D → D → Option D
  | .lst ds, .int i => L2.atI ds i
  | .tup ds, .int i => L2.atI ds i
  | .str z, .int i => if z.length ≤ sizeLine then (L2.atI z.cps.toList i).map fun c => .str ⟨#[c]⟩ else none
  | _, _ => none
theorem ro_ix : RO K (rIx K) ixM := by
  intro dk F H st x y d e z w rx ry hz Q q
  unfold ixM at hz
  split at hz
  · obtain ⟨p, vs, rfl, hl, r⟩ := rx.l w.sub
    obtain ⟨v, h1, h2⟩ := r.atI hz
    exact .inl ⟨p, vs, _, v, rfl, ry.int, SqL.of hl, h1, q _ F H (Px.refl w.sub) h2⟩
  · obtain ⟨p, vs, rfl, hl, r⟩ := rx.tup w.sub
    obtain ⟨v, h1, h2⟩ := r.atI hz
    exact .inr (.inl ⟨p, vs, _, v, rfl, ry.int, hl, h1, q _ F H (Px.refl w.sub) h2⟩)
  · split at hz
    · rename_i ho
      obtain ⟨c, h1, rfl⟩ := mpd hz
      exact .inr (.inr ⟨_, _, c, rx.str, ry.int, ho, h1, q _ F H (Px.refl w.sub) (.str _)⟩)
    · cases hz
  · cases hz
end
end MD

set_option Elab.async false
set_option linter.all false
set_option maxRecDepth 100000
set_option maxHeartbeats 1000000
namespace MD
open PySem L2
variable {ww : WW}

section
variable {K : Fg} {dk : Dk} {F F' F0 : Fz} {H H' H0 : Hp} {σ : L2.St} {env : Sg} {st : S}
/-! ### slices -/
abbrev MO := Sg → S → Option (Option Int × S)
def ImO [WW] (K : Fg) (to : TO) (f : MO) : Prop := ∀ (dk : Dk) (H0 : Hp) (F0 F : Fz) (σ : L2.St) (H : Hp) (env : Sg) (st : S) (o : Option Int) (st' : S), Good K dk H0 F0 F σ H env st → f env st = some (o, st') →
  ∀ Q : Option Int → Hp → Prop, (∀ F' H', Ext dk F H F' H' → Good K dk H0 F0 F' σ H' env st' → Q o H') → to σ H Q
def noP : MO := fun _ st => some (none, st)
def intOf : D → Option Int
  | .int i => some i
  | _ => none
def prt (f : ME) : MO := fun env st => (f env st).bind fun p => (intOf p.1).map fun i => (some i, p.2)
theorem io_none : ImO K tNoPart noP := fun dk H0 F0 F σ H env st o st' g e Q q => by
  cases e
  exact q F H (Ext.refl F H) g
theorem io_some {te : TE} {f : ME} (h : ImW K te f) : ImO K (tPart te) (prt f) := fun dk H0 F0 F σ H env st o st' g e Q q => by
  obtain ⟨⟨x, s1⟩, h1, e⟩ := bnd e
  obtain ⟨i, h2, e⟩ := mpd e
  cases e
  refine h dk H0 F0 F σ H env st x s1 g h1 _ fun v F' H' x1 g1 r1 => ?_
  have hx : x = .int i := by
    cases x <;> first | (cases h2; rfl) | cases h2
  subst hx
  exact ⟨i, r1.w.int, q F' H' x1 g1⟩
def RS [WW] (K : Fg) (r : V → Option Int → Option Int → Hp → VK → Prop) (f : D → Option Int → Option Int → Option D) : Prop := ∀ (dk : Dk) (F : Fz) (H : Hp) (st : S) (x : V) (d z : D) (lo hi : Option Int), Wd K dk F H st → Rw K dk F H x d → f d lo hi = some z →
  ∀ Q : VK, (∀ v F' H', Px F H F' H' → Rp K dk F' v z → Q v H') → r x lo hi H Q
theorem RS.or {r r' : V → Option Int → Option Int → Hp → VK → Prop} {f f' : D → Option Int → Option Int → Option D} (h : RS K r f) (h' : RS K r' f') :
    RS K (fun x lo hi H Q => r x lo hi H Q ∨ r' x lo hi H Q) (fun d lo hi => (f d lo hi).orElse fun _ => f' d lo hi) := by
  intro dk F H st x d z lo hi w rx hz Q q
  replace hz : ((f d lo hi).orElse fun _ => f' d lo hi) = some z := hz
  cases hf : f d lo hi with
  | some y' =>
    rw [hf] at hz
    have : some y' = some z := hz
    cases this
    exact .inl (h dk F H st x d z lo hi w rx hf Q q)
  | none =>
    rw [hf] at hz
    exact .inr (h' dk F H st x d z lo hi w rx hz Q q)
def slM (f : D → Option Int → Option Int → Option D) (fe : ME) (fl fh : MO) : ME := fun env st => (fe env st).bind fun p => (fl env p.2).bind fun l => (fh env l.2).bind fun u => (f (dr u.2 p.1) l.1 u.1).map fun z => (z, u.2)
theorem im_sl {r : V → Option Int → Option Int → Hp → VK → Prop} {f : D → Option Int → Option Int → Option D} {te : TE} {tl th : TO} {fe : ME} {fl fh : MO} (hr : RS K r f) (he : ImW K te fe) (hl : ImO K tl fl) (hh : ImO K th fh) :
    Im K (tSl r te tl th) (slM f fe fl fh) := fun dk H0 F0 F σ H env st d st' g e Q q => by
  obtain ⟨⟨x, s1⟩, h1, e⟩ := bnd e
  obtain ⟨⟨l, s2⟩, h2, e⟩ := bnd e
  obtain ⟨⟨u, s3⟩, h3, e⟩ := bnd e
  obtain ⟨z, h4, e⟩ := mpd e
  cases e
  refine he dk H0 F0 F σ H env st x s1 g h1 _ fun v F1 H1 x1 g1 r1 => ?_
  refine hl dk H0 F0 F1 σ H1 env s1 l s2 g1 h2 _ fun F2 H2 x2 g2 => ?_
  refine hh dk H0 F0 F2 σ H2 env s2 u s3 g2 h3 _ fun F3 H3 x3 g3 => ?_
  exact hr dk F3 H3 s3 v _ d l u g3.wd (((r1.ext x2).ext x3).dr g3.wd) h4 Q fun w F4 H4 px r4 => q w F4 H4 (((x1.trans x2).trans x3).trans px.ext) (g3.px px) r4
def cutD (ds : List D) (lo hi : Option Int) : List D := (ds.drop (HT.sIx ds.length 0 lo)).take (HT.sIx ds.length ds.length hi - HT.sIx ds.length 0 lo)
theorem Rps.cut {vs : List V} {ds : List D} (r : Rps K dk F vs ds) (lo hi : Option Int) : Rps K dk F (cutV vs lo hi) (cutD ds lo hi) := by
  unfold cutV cutD
  rw [r.length]
  exact (r.drop _).take _
def slTup : D → Option Int → Option Int → Option D
  | .tup ds, lo, hi => some (.tup (cutD ds lo hi))
  | _, _, _ => none
def slLst : D → Option Int → Option Int → Option D
  | .lst ds, lo, hi => some (.lst (cutD ds lo hi))
  | _, _, _ => none
def slStr : D → Option Int → Option Int → Option D
  | .str z, lo, hi => if z.length ≤ sizeLine then some (.str (cutS z lo hi)) else none
  | _, _, _ => none
theorem rs_tup : RS K (rSlA K) slTup := by
  intro dk F H st x d z lo hi w rx hz Q q
  unfold slTup at hz
  split at hz
  · cases hz
    obtain ⟨p, vs, rfl, hl, r⟩ := rx.tup w.sub
    refine ⟨p, vs, rfl, hl, fun hw => ?_, fun _ a ha => ?_⟩
    · have e : ∀ ds : List D, vs.length = ds.length → cutD ds lo hi = ds := fun ds hl => by
        unfold cutD
        rw [← hl, hw.1, hw.2]
        simp [hl]
      rw [e _ r.length] at q
      exact q _ F H (Px.refl w.sub) rx.tp
    · have px : Px F H (Fz.up F a (.tup (cutV vs lo hi))) (upd H a (.tup (cutV vs lo hi))) := Px.new w.sub ha
      exact q _ _ _ px (.tup (SqT.of Fz.up_same) ((r.cut lo hi).mono px.f))
  · cases hz
theorem rs_lst : RS K (rSlL K) slLst := by
  intro dk F H st x d z lo hi w rx hz Q q
  unfold slLst at hz
  split at hz
  · cases hz
    obtain ⟨p, vs, rfl, hl, r⟩ := rx.l w.sub
    refine ⟨p, vs, rfl, SqL.of hl, fun a ha => ?_⟩
    have px : Px F H (Fz.up F a (.lst (cutV vs lo hi))) (upd H a (.lst (cutV vs lo hi))) := Px.new w.sub ha
    exact q _ _ _ px (.lst Fz.up_same ((r.cut lo hi).mono px.f))
  · cases hz
theorem rs_str : RS K rSlS slStr := by
  intro dk F H st x d z lo hi w rx hz Q q
  unfold slStr at hz
  split at hz
  · split at hz
    · rename_i ho
      cases hz
      exact ⟨_, rx.str, ho, q _ F H (Px.refl w.sub) (.str _)⟩
    · cases hz
  · cases hz
def slAny : D → Option Int → Option Int → Option D := fun d lo hi => (slTup d lo hi).orElse fun _ => (slStr d lo hi).orElse fun _ => slLst d lo hi
theorem sl_any {X : Cx} : SlR X (fun x lo hi H Q => rSlA X.K x lo hi H Q ∨ rSlS x lo hi H Q ∨ rSlL X.K x lo hi H Q) := sl_tupA.or (sl_str.or sl_list)
theorem rs_any : RS K (fun x lo hi H Q => rSlA K x lo hi H Q ∨ rSlS x lo hi H Q ∨ rSlL K x lo hi H Q) slAny := rs_tup.or (rs_str.or rs_lst)

/-! ### arguments -/
def aNil : MA := fun _ st => some ([], st)
def aCons (f : ME) (r : MA) : MA := fun env st => (f env st).bind fun p => (r env p.2).map fun q => (p.1 :: q.1, q.2)
theorem ia_nil : ImA K tNil aNil := fun dk H0 F0 F σ H env st ds st' g e Q q => by
  cases e
  exact q [] F H (Ext.refl F H) g .nil
theorem ia_cons {te : TE} {ta : TA} {f : ME} {r : MA} (h : Im K te f) (hr : ImA K ta r) : ImA K (tCons te ta) (aCons f r) := fun dk H0 F0 F σ H env st ds st' g e Q q => by
  obtain ⟨⟨x, s1⟩, h1, e⟩ := bnd e
  obtain ⟨⟨xs, s2⟩, h2, e⟩ := mpd e
  cases e
  refine h dk H0 F0 F σ H env st x s1 g h1 _ fun v F1 H1 x1 g1 r1 => ?_
  exact hr dk H0 F0 F1 σ H1 env s1 xs s2 g1 h2 _ fun vs F2 H2 x2 g2 r2 => q (v :: vs) F2 H2 (x1.trans x2) g2 (.cons (r1.mono x2.f) r2)
theorem iaw_nil : ImAW K tNil aNil := fun dk H0 F0 F σ H env st ds st' g e Q q => by
  cases e
  exact q [] F H (Ext.refl F H) g .nil
theorem iaw_cons {te : TE} {ta : TA} {f : ME} {r : MA} (h : ImW K te f) (hr : ImAW K ta r) : ImAW K (tCons te ta) (aCons f r) := fun dk H0 F0 F σ H env st ds st' g e Q q => by
  obtain ⟨⟨x, s1⟩, h1, e⟩ := bnd e
  obtain ⟨⟨xs, s2⟩, h2, e⟩ := mpd e
  cases e
  refine h dk H0 F0 F σ H env st x s1 g h1 _ fun v F1 H1 x1 g1 r1 => ?_
  exact hr dk H0 F0 F1 σ H1 env s1 xs s2 g1 h2 _ fun vs F2 H2 x2 g2 r2 => q (v :: vs) F2 H2 (x1.trans x2) g2 (.cons (r1.ext x2) r2)
/-! displays -/
def tupM (a : MA) : ME := fun env st => (a env st).bind fun p => if p.1.length ≤ sizeLine then some (.tup p.1, p.2) else none
def lstM (a : MA) : MA := fun env st => (a env st).bind fun p => if p.1.length ≤ sizeLine then some p else none
theorem im_tup {ta : TA} {a : MA} (h : ImA K ta a) : Im K (tTup ta) (tupM a) := fun dk H0 F0 F σ H env st d st' g e Q q => by
  obtain ⟨⟨xs, s1⟩, h1, e⟩ := bnd e
  split at e
  · rename_i hz
    cases e
    refine h dk H0 F0 F σ H env st xs s1 g h1 _ fun vs F1 H1 x1 g1 r1 => ⟨by rw [r1.length]; exact hz, fun p hp => ?_⟩
    have px : Px F1 H1 (Fz.up F1 p (.tup vs)) (upd H1 p (.tup vs)) := Px.new g1.wd.sub hp
    exact q _ _ _ (x1.trans px.ext) (g1.px px) (.tup (SqT.of Fz.up_same) (r1.mono px.f))
  · cases e
theorem if_lst {ta : TA} {a : MA} (h : ImA K ta a) : ImF K (tLst ta) (lstM a) := fun dk H0 F0 F σ H env st d st' g e Q q => by
  obtain ⟨⟨xs, s1⟩, h1, e⟩ := bnd e
  split at e
  · rename_i hz
    cases e
    refine h dk H0 F0 F σ H env st d st' g h1 _ fun vs F1 H1 x1 g1 r1 => ⟨by rw [r1.length]; exact hz, fun p hp => ?_⟩
    have px : Px F1 H1 F1 (upd H1 p (.lst vs)) := Px.lay g1.wd.sub hp
    have h0 : H p = none := by
      cases w : H p with
      | none => rfl
      | some o => exact absurd hp (x1.m p (by rw [w]; exact fun z => nomatch z))
    exact q p vs F1 _ (x1.trans px.ext) (g1.px px) h0 (g1.wd.out hp) upd_same r1
  · cases e

/-! ### calls of built-ins -/
def RC [WW] (K : Fg) (r : List V → Hp → VK → Prop) (f : List D → Option D) : Prop := ∀ (dk : Dk) (F : Fz) (H : Hp) (st : S) (vs : List V) (ds : List D) (z : D), Wd K dk F H st → Rws K dk F H vs ds → f ds = some z →
  ∀ Q : VK, (∀ v F' H', Px F H F' H' → Rp K dk F' v z → Q v H') → r vs H Q
def cbM (f : List D → Option D) (a : MA) : ME := fun env st => (a env st).bind fun p => (f (p.1.map (dr p.2))).map fun z => (z, p.2)
theorem im_cb {r : List V → Hp → VK → Prop} {f : List D → Option D} {ta : TA} {a : MA} (hr : RC K r f) (ha : ImAW K ta a) : Im K (tCB r ta) (cbM f a) := fun dk H0 F0 F σ H env st d st' g e Q q => by
  obtain ⟨⟨xs, s1⟩, h1, e⟩ := bnd e
  obtain ⟨z, h2, e⟩ := mpd e
  cases e
  refine ha dk H0 F0 F σ H env st xs s1 g h1 _ fun vs F1 H1 x1 g1 r1 => ?_
  exact hr dk F1 H1 s1 vs _ d g1.wd (r1.dr g1.wd) h2 Q fun w F2 H2 px r2 => q w F2 H2 (x1.trans px.ext) (g1.px px) r2
theorem CallR.or {X : Cx} {f : Value} {r r' : List V → Hp → VK → Prop} (h : CallR X f r) (h' : CallR X f r') : CallR X f (fun xs H Q => r xs H Q ∨ r' xs H Q) := by
  intro pins s σ H xs us Q I rs q
  rcases q with q | q
  · exact h pins s σ H xs us Q I rs q
  · exact h' pins s σ H xs us Q I rs q
theorem RC.or {r r' : List V → Hp → VK → Prop} {f f' : List D → Option D} (h : RC K r f) (h' : RC K r' f') : RC K (fun xs H Q => r xs H Q ∨ r' xs H Q) (fun ds => (f ds).orElse fun _ => f' ds) := by
  intro dk F H st vs ds z w rx hz Q q
  replace hz : ((f ds).orElse fun _ => f' ds) = some z := hz
  cases hf : f ds with
  | some y' =>
    rw [hf] at hz
    have : some y' = some z := hz
    cases this
    exact .inl (h dk F H st vs ds z w rx hf Q q)
  | none =>
    rw [hf] at hz
    exact .inr (h' dk F H st vs ds z w rx hz Q q)
theorem Rys.ws : ∀ {vs : List V} {ds : List D}, Rys K dk F H vs ds → Rws K dk F H vs ds
  | _, _, .nil => .nil
  | _, _, .cons a b => .cons a.w (Rys.ws b)
theorem Rws.one {vs : List V} {d : D} (r : Rws K dk F H vs [d]) : ∃ v, vs = [v] ∧ Rw K dk F H v d := by
  cases r with
  | cons a b => cases b; exact ⟨_, rfl, a⟩
theorem Rws.two {vs : List V} {d e : D} (r : Rws K dk F H vs [d, e]) : ∃ v u, vs = [v, u] ∧ Rw K dk F H v d ∧ Rw K dk F H u e := by
  cases r with
  | cons a b => cases b with
    | cons b c => cases c; exact ⟨_, _, rfl, a, b⟩
def lenM : List D → Option D
  | [.str z] => if z.length ≤ sizeLine then some (.int z.length) else none
  | [.lst ds] => some (.int ds.length)
  | [.tup ds] => some (.int ds.length)
  | _ => none
theorem rc_len : RC K (fun xs H Q => ∃ x n, xs = [x] ∧ LenV K x H n ∧ Q (.int n) H) lenM := by
  intro dk F H st vs ds z w rx hz Q q
  unfold lenM at hz
  split at hz
  · split at hz
    · rename_i ho
      cases hz
      obtain ⟨v, rfl, r⟩ := rx.one
      cases r.str
      exact ⟨_, _, rfl, ⟨ho, rfl⟩, q _ F H (Px.refl w.sub) (.int _)⟩
    · cases hz
  · cases hz
    obtain ⟨v, rfl, r⟩ := rx.one
    obtain ⟨p, vs, rfl, hl, r⟩ := r.l w.sub
    exact ⟨_, vs.length, rfl, .inl ⟨vs, SqL.of hl, rfl⟩, by rw [r.length]; exact q _ F H (Px.refl w.sub) (.int _)⟩
  · cases hz
    obtain ⟨v, rfl, r⟩ := rx.one
    obtain ⟨p, vs, rfl, hl, r⟩ := r.tup w.sub
    exact ⟨_, vs.length, rfl, .inr ⟨vs, hl, rfl⟩, by rw [r.length]; exact q _ F H (Px.refl w.sub) (.int _)⟩
  · cases hz
def int1M : List D → Option D
  | [.int i] => some (.int i)
  | [.bl k] => some (.int (if k then 1 else 0))
  | _ => none
theorem rc_int1 : RC K (fun xs H Q => (∃ i, xs = [.int i] ∧ Q (.int i) H) ∨ ∃ k, xs = [.bl k] ∧ Q (.int (if k then 1 else 0)) H) int1M := by
  intro dk F H st vs ds z w rx hz Q q
  unfold int1M at hz
  split at hz
  · cases hz
    obtain ⟨v, rfl, r⟩ := rx.one
    cases r.int
    exact .inl ⟨_, rfl, q _ F H (Px.refl w.sub) (.int _)⟩
  · cases hz
    obtain ⟨v, rfl, r⟩ := rx.one
    cases r.bl
    exact .inr ⟨_, rfl, q _ F H (Px.refl w.sub) (.int _)⟩
  · cases hz
def absM : List D → Option D
  | [.int i] => some (.int (if i < 0 then -i else i))
  | _ => none
theorem rc_abs : RC K (fun xs H Q => ∃ i, xs = [.int i] ∧ Q (.int (if i < 0 then -i else i)) H) absM := by
  intro dk F H st vs ds z w rx hz Q q
  unfold absM at hz
  split at hz
  · cases hz
    obtain ⟨v, rfl, r⟩ := rx.one
    cases r.int
    exact ⟨_, rfl, q _ F H (Px.refl w.sub) (.int _)⟩
  · cases hz
/-! lists of ints, of texts -/
def intsOf : List D → Option (List Int)
  | [] => some []
  | .int i :: r => (intsOf r).map (i :: ·)
  | _ => none
def strsOf : List D → Option (List Str)
  | [] => some []
  | .str i :: r => (strsOf r).map (i :: ·)
  | _ => none
theorem Rps.ints : ∀ {vs : List V} {ds : List D} {ns : List Int}, Rps K dk F vs ds → intsOf ds = some ns → vs = ns.map V.int
  | _, _, _, .nil, h => by cases h; rfl
  | _, _, _, .cons a b, h => by
    rename_i d ds
    cases d with
    | int i =>
      obtain ⟨ms, h1, h2⟩ := mpd (f := (i :: ·)) h
      cases h2
      cases a
      rw [Rps.ints b h1]
      rfl
    | _ => cases h
theorem Rps.strs : ∀ {vs : List V} {ds : List D} {ns : List Str}, Rps K dk F vs ds → strsOf ds = some ns → vs = ns.map V.str
  | _, _, _, .nil, h => by cases h; rfl
  | _, _, _, .cons a b, h => by
    rename_i d ds
    cases d with
    | str i =>
      obtain ⟨ms, h1, h2⟩ := mpd (f := (i :: ·)) h
      cases h2
      cases a
      rw [Rps.strs b h1]
      rfl
    | _ => cases h
def sumM : List D → Option D
  | [.lst ds] => (intsOf ds).map fun ns => .int ns.sum
  | _ => none
theorem rc_sum : RC K (rSum K) sumM := by
  intro dk F H st vs ds z w rx hz Q q
  unfold sumM at hz
  split at hz
  · obtain ⟨ns, h1, rfl⟩ := mpd hz
    obtain ⟨v, rfl, r⟩ := rx.one
    obtain ⟨p, vs, rfl, hl, r⟩ := r.l w.sub
    cases r.ints h1
    exact ⟨p, ns, rfl, SqL.of hl, q _ F H (Px.refl w.sub) (.int _)⟩
  · cases hz
def topI : List Int → Int
  | [] => 0
  | [x] => x
  | x :: y :: r => if topI (y :: r) > x then topI (y :: r) else x
def botI : List Int → Int
  | [] => 0
  | [x] => x
  | x :: y :: r => if botI (y :: r) < x then botI (y :: r) else x
theorem topI_spec : ∀ (l : List Int), l ≠ [] → topI l ∈ l ∧ ∀ y ∈ l, y ≤ topI l
  | [], h => absurd rfl h
  | [x], _ => ⟨by simp [topI], fun y hy => by simp at hy; simp [topI, hy]⟩
  | x :: y :: r, _ => by
    obtain ⟨h1, h2⟩ := topI_spec (y :: r) (by simp)
    unfold topI
    split
    · rename_i hc
      refine ⟨List.mem_cons_of_mem _ h1, fun z hz => ?_⟩
      rcases List.mem_cons.mp hz with e | e
      · subst e; omega
      · exact h2 z e
    · rename_i hc
      refine ⟨List.mem_cons_self, fun z hz => ?_⟩
      rcases List.mem_cons.mp hz with e | e
      · subst e; omega
      · have := h2 z e; omega
theorem botI_spec : ∀ (l : List Int), l ≠ [] → botI l ∈ l ∧ ∀ y ∈ l, botI l ≤ y
  | [], h => absurd rfl h
  | [x], _ => ⟨by simp [botI], fun y hy => by simp at hy; simp [botI, hy]⟩
  | x :: y :: r, _ => by
    obtain ⟨h1, h2⟩ := botI_spec (y :: r) (by simp)
    unfold botI
    split
    · rename_i hc
      refine ⟨List.mem_cons_of_mem _ h1, fun z hz => ?_⟩
      rcases List.mem_cons.mp hz with e | e
      · subst e; omega
      · exact h2 z e
    · rename_i hc
      refine ⟨List.mem_cons_self, fun z hz => ?_⟩
      rcases List.mem_cons.mp hz with e | e
      · subst e; omega
      · have := h2 z e; omega
def maxM : List D → Option D
  | [.lst (d :: ds)] => (intsOf (d :: ds)).map fun ns => .int (topI ns)
  | _ => none
def minM : List D → Option D
  | [.lst (d :: ds)] => (intsOf (d :: ds)).map fun ns => .int (botI ns)
  | _ => none
theorem intsOf_len : ∀ {ds : List D} {ns : List Int}, intsOf ds = some ns → ns.length = ds.length
  | [], _, h => by cases h; rfl
  | d :: ds, ns, h => by
    cases d with
    | int i =>
      obtain ⟨ms, h1, h2⟩ := mpd (f := (i :: ·)) h
      cases h2
      simp [intsOf_len h1]
    | _ => cases h
theorem rc_max : RC K (rMax K) maxM := by
  intro dk F H st vs ds z w rx hz Q q
  unfold maxM at hz
  split at hz
  · obtain ⟨ns, h1, rfl⟩ := mpd hz
    obtain ⟨v, rfl, r⟩ := rx.one
    obtain ⟨p, vs, rfl, hl, r⟩ := r.l w.sub
    cases r.ints h1
    have hn := intsOf_len h1
    simp at hn
    obtain ⟨t1, t2⟩ := topI_spec ns (fun z => by rw [z] at hn; cases hn)
    refine ⟨p, ns, rfl, SqL.of hl, by omega, fun m hm hy => ?_⟩
    have e : m = topI ns := by have := t2 m hm; have := hy _ t1; omega
    rw [e]
    exact q _ F H (Px.refl w.sub) (.int _)
  · cases hz
theorem rc_min : RC K (rMin K) minM := by
  intro dk F H st vs ds z w rx hz Q q
  unfold minM at hz
  split at hz
  · obtain ⟨ns, h1, rfl⟩ := mpd hz
    obtain ⟨v, rfl, r⟩ := rx.one
    obtain ⟨p, vs, rfl, hl, r⟩ := r.l w.sub
    cases r.ints h1
    have hn := intsOf_len h1
    simp at hn
    obtain ⟨t1, t2⟩ := botI_spec ns (fun z => by rw [z] at hn; cases hn)
    refine ⟨p, ns, rfl, SqL.of hl, by omega, fun m hm hy => ?_⟩
    have e : m = botI ns := by have := t2 m hm; have := hy _ t1; omega
    rw [e]
    exact q _ F H (Px.refl w.sub) (.int _)
  · cases hz
/-! tuple(..) -/
def tupOfM : List D → Option D
  | [.lst ds] => some (.tup ds)
  | [.tup ds] => some (.tup ds)
  | _ => none
theorem rc_tupOf : RC K (fun xs H Q => ∃ p ys, xs = [.ref p] ∧ ((SqL K H p ys ∧ ∀ l, H l = none → Q (.ref l) (upd H l (.tup ys))) ∨ (SqT K H p ys ∧ Q (.ref p) H))) tupOfM := by
  intro dk F H st vs ds z w rx hz Q q
  unfold tupOfM at hz
  split at hz
  · cases hz
    obtain ⟨v, rfl, r⟩ := rx.one
    obtain ⟨p, vs, rfl, hl, r⟩ := r.l w.sub
    refine ⟨p, vs, rfl, .inl ⟨SqL.of hl, fun a ha => ?_⟩⟩
    have px : Px F H (Fz.up F a (.tup vs)) (upd H a (.tup vs)) := Px.new w.sub ha
    exact q _ _ _ px (.tup (SqT.of Fz.up_same) (r.mono px.f))
  · cases hz
    obtain ⟨v, rfl, r⟩ := rx.one
    obtain ⟨p, vs, rfl, hl, r'⟩ := r.tup w.sub
    refine ⟨p, vs, rfl, .inr ⟨hl, ?_⟩⟩
    exact q _ F H (Px.refl w.sub) r.tp
  · cases hz
/-- the signs of a text -/
def signs (x : Str) : List Str := x.cps.toList.map fun c => ⟨#[c]⟩
def tupStrM : List D → Option D
  | [.str x] => if x.cps.size ≤ sizeLine then some (.tup ((signs x).map D.str)) else none
  | _ => none
theorem Rps.ofStrs : ∀ (xs : List Str), Rps K dk F (xs.map V.str) (xs.map D.str)
  | [] => .nil
  | x :: xs => .cons (.str x) (Rps.ofStrs xs)
theorem Rps.ofInts : ∀ (xs : List Int), Rps K dk F (xs.map V.int) (xs.map D.int)
  | [] => .nil
  | x :: xs => .cons (.int x) (Rps.ofInts xs)
theorem call_tupStr {X : Cx} (hc : X.calm = true) : CallR X (.type "tuple") (fun xs H Q => ∃ x, xs = [.str x] ∧ x.cps.size ≤ sizeLine ∧ ∀ p, H p = none → Q (.ref p) (upd H p (.tup ((signs x).map V.str)))) := by
  intro pins s σ H xs us Q I rs h
  obtain ⟨x, rfl, hz, q⟩ := h
  obtain ⟨u, rfl, rx⟩ := vals1 rs
  obtain ⟨t, rfl⟩ := rx
  refine call_tuple_str (I.ok.hd hc) x t (fun h' tk acc hk hi => ?_) hz
  have I' : Inv X pins σ H { s with heap := h', toks := tk } := I.kept (t' := tk) hk
  have lenA : acc.toList.length = (signs x).length := by
    unfold signs
    rw [List.length_map, Array.length_toList, Array.length_toList]
    exact hi.1
  have vals : Vals ((signs x).map V.str) acc.toList := by
    have key : ∀ (l : List Value) (m : List Nat), l.length = m.length → (∀ (j : Nat) (v : Value), l[j]? = some v → ∃ c u, m[j]? = some c ∧ v = .str ⟨#[c]⟩ u) → Vals ((m.map fun c => (⟨#[c]⟩ : Str)).map V.str) l := by
      intro l
      induction l with
      | nil => intro m hm _; cases m with
        | nil => exact .nil
        | cons _ _ => cases hm
      | cons a l ih => intro m hm hj; cases m with
        | nil => cases hm
        | cons c m =>
          obtain ⟨c', u, e1, e2⟩ := hj 0 a rfl
          have e1' : c = c' := Option.some.inj e1
          subst e1' e2
          exact .cons ⟨u, rfl⟩ (ih m (by simpa using hm) fun j v hv => hj (j + 1) v hv)
    refine key acc.toList x.cps.toList (by simpa [signs] using lenA) fun j v hv => ?_
    obtain ⟨c, u, h1, h2⟩ := hi.2 j v (by simpa using hv)
    exact ⟨c, u, by simpa using h1, h2⟩
  have hf : H h'.objs.size = none := I'.hok.fresh (Nat.le_refl _)
  refine ⟨.ref h'.objs.size, upd H h'.objs.size (.tup ((signs x).map V.str)), I'.laid (t' := tk) (fun b o e => Heap.get?_push_of_some _ e) (Nat.le_refl _) ?_, rfl, q _ hf⟩
  refine ⟨?_, acc.toList, vals, ⟨_, Heap.get?_push_size _ rfl, rfl, _, rfl⟩⟩
  rw [List.length_map]
  unfold signs
  rw [List.length_map, Array.length_toList]
  exact hz
theorem rc_tupStr : RC K (fun xs H Q => ∃ x, xs = [.str x] ∧ x.cps.size ≤ sizeLine ∧ ∀ p, H p = none → Q (.ref p) (upd H p (.tup ((signs x).map V.str)))) tupStrM := by
  intro dk F H st vs ds z w rx hz Q q
  unfold tupStrM at hz
  split at hz
  · rename_i y
    split at hz
    · rename_i ho
      cases hz
      obtain ⟨v, rfl, r⟩ := rx.one
      cases r.str
      refine ⟨_, rfl, ho, fun a ha => ?_⟩
      have px : Px F H (Fz.up F a (.tup ((signs y).map V.str))) (upd H a (.tup ((signs y).map V.str))) := Px.new w.sub ha
      exact q _ _ _ px (.tup (SqT.of Fz.up_same) (Rps.ofStrs _))
    · cases hz
  · cases hz
end
end MD

set_option Elab.async false
set_option linter.all false
set_option maxRecDepth 100000
set_option maxHeartbeats 1000000
namespace MD
open PySem L2
variable {ww : WW}

section
variable {K : Fg} {dk : Dk} {F F' F0 : Fz} {H H' H0 : Hp} {σ : L2.St} {env : Sg} {st : S}
/-! ### methods of built-in kinds -/
def RM [WW] (K : Fg) (r : V → List V → Hp → VK → Prop) (f : D → List D → Option D) : Prop := ∀ (dk : Dk) (F : Fz) (H : Hp) (st : S) (x : V) (d : D) (vs : List V) (ds : List D) (z : D), Wd K dk F H st → Rw K dk F H x d → Rws K dk F H vs ds → f d ds = some z →
  ∀ Q : VK, (∀ v F' H', Px F H F' H' → Rp K dk F' v z → Q v H') → r x vs H Q
def isStrD : D → Bool
  | .str _ => true
  | _ => false
def isLstD : D → Bool
  | .lst _ => true
  | _ => false
def m1M (f : D → List D → Option D) (fo fe : ME) : ME := fun env st => (fo env st).bind fun p => if isStrD p.1 then (fe env p.2).bind fun q => (f p.1 [dr q.2 q.1]).map fun z => (z, q.2) else none
theorem im_m1 {r : V → List V → Hp → VK → Prop} {f : D → List D → Option D} {to te : TE} {fo fe : ME} (hr : RM K r f) (ho : ImW K to fo) (he : ImW K te fe) : Im K (tM1 r to te) (m1M f fo fe) := fun dk H0 F0 F σ H env st d st' g e Q q => by
  obtain ⟨⟨x, s1⟩, h1, e⟩ := bnd e
  split at e
  · rename_i hs
    obtain ⟨⟨y, s2⟩, h2, e⟩ := bnd e
    obtain ⟨z, h3, e⟩ := mpd e
    cases e
    refine ho dk H0 F0 F σ H env st x s1 g h1 _ fun v F1 H1 x1 g1 r1 => ⟨?_, ?_⟩
    · have hs' : isStrD x = true := hs
      cases x <;> first | exact ⟨_, r1.w.str⟩ | cases hs'
    · refine he dk H0 F0 F1 σ H1 env s1 y s2 g1 h2 _ fun u F2 H2 x2 g2 r2 => ?_
      exact hr dk F2 H2 s2 v x [u] [dr s2 y] d g2.wd (r1.ext x2).w (.cons (r2.dr g2.wd) .nil) h3 Q fun w F3 H3 px r3 => q w F3 H3 ((x1.trans x2).trans px.ext) (g2.px px) r3
  · cases e
def bmL (f : D → List D → Option D) (fo : ME) (fa : MA) : ME := fun env st => (fo env st).bind fun p => if isLstD (dr p.2 p.1) then (fa env p.2).bind fun q => (f (dr q.2 p.1) (q.1.map (dr q.2))).map fun z => (z, q.2) else none
theorem im_bmL {r : V → List V → Hp → VK → Prop} {f : D → List D → Option D} {to : TE} {ta : TA} {fo : ME} {fa : MA} (hr : RM K r f) (ho : ImW K to fo) (ha : ImAW K ta fa) : Im K (tBM K "list" r to ta) (bmL f fo fa) := fun dk H0 F0 F σ H env st d st' g e Q q => by
  obtain ⟨⟨x, s1⟩, h1, e⟩ := bnd e
  split at e
  · rename_i hs
    obtain ⟨⟨y, s2⟩, h2, e⟩ := bnd e
    obtain ⟨z, h3, e⟩ := mpd e
    cases e
    refine ho dk H0 F0 F σ H env st x s1 g h1 _ fun v F1 H1 x1 g1 r1 => ⟨?_, ?_⟩
    · have hs' : isLstD (dr s1 x) = true := hs
      have r1' := r1.dr g1.wd
      generalize dr s1 x = x' at hs' r1'
      cases x' with
      | lst ds =>
        obtain ⟨p, vs, rfl, hl, r⟩ := r1'.l g1.wd.sub
        exact .inl ⟨rfl, vs, SqL.of hl⟩
      | _ => cases hs'
    · refine ha dk H0 F0 F1 σ H1 env s1 y s2 g1 h2 _ fun us F2 H2 x2 g2 r2 => ?_
      exact hr dk F2 H2 s2 v _ us _ d g2.wd ((r1.ext x2).dr g2.wd) (r2.dr g2.wd) h3 Q fun w F3 H3 px r3 => q w F3 H3 ((x1.trans x2).trans px.ext) (g2.px px) r3
  · cases e
/-- text.index(text) -/
def sindexM : D → List D → Option D
  | .str a, [.str b] => match Builtin.Str.occurrences a b 0 a.length 1 with
    | i :: _ => some (.int (i : Nat))
    | [] => none
  | _, _ => none
theorem rm_sindex : RM K (fun x xs H Q => ∃ a b i rest, x = .str a ∧ xs = [.str b] ∧ Builtin.Str.occurrences a b 0 a.length 1 = i :: rest ∧ Q (.int (i : Nat)) H) sindexM := by
  intro dk F H st x d vs ds z w rx rs hz Q q
  unfold sindexM at hz
  split at hz
  · split at hz
    · rename_i i rest ho
      cases hz
      obtain ⟨v, rfl, r⟩ := rs.one
      cases r.str
      exact ⟨_, _, i, rest, rx.str, rfl, ho, q _ F H (Px.refl w.sub) (.int _)⟩
    · cases hz
  · cases hz
/-- list.index(flat) -/
def lindexM : D → List D → Option D
  | .lst ys, [y] => if flatD y && ys.all flatD then (ys.findIdx? fun z => eqFD z y).map fun j => .int (j : Nat) else none
  | _, _ => none
theorem Rps.allFlat : ∀ {vs : List V} {ds : List D}, Rps K dk F vs ds → ds.all flatD = true → vs.all flatV = true
  | _, _, .nil, _ => rfl
  | _, _, .cons a b, p => by
    rw [List.all_cons, Bool.and_eq_true] at p
    rw [List.all_cons, a.flat p.1, Rps.allFlat b p.2]; rfl
theorem rm_lindex : RM K (rIndex K) lindexM := by
  intro dk F H st x d vs ds z w rx rs hz Q q
  unfold lindexM at hz
  split at hz
  · rename_i ys y
    split at hz
    · rename_i ho
      rw [Bool.and_eq_true] at ho
      obtain ⟨j, hj, rfl⟩ := mpd hz
      obtain ⟨v, rfl, r⟩ := rs.one
      obtain ⟨p, us, rfl, hl, r2⟩ := rx.l w.sub
      have rv := r.flat ho.1
      obtain ⟨hlt, hp, hm⟩ := List.findIdx?_eq_some_iff_getElem.mp hj
      have hat : ∀ (m : Nat) (z' : V), us[m]? = some z' → ∃ d', ys[m]? = some d' ∧ eqV z' v = eqFD d' y := fun m z' e => by
        obtain ⟨d', h1, h2⟩ := r2.getV e
        exact ⟨d', h1, h2.eqF rv (List.all_eq_true.mp ho.2 d' (List.mem_of_getElem? h1)) ho.1⟩
      obtain ⟨z', h1, h2⟩ := r2.get (i := j) (List.getElem?_eq_getElem hlt)
      refine ⟨p, us, v, j, z', rfl, rfl, SqL.of hl, rv.flat ho.1, r2.allFlat ho.2, h1, ?_, fun m z'' hlt' e => ?_, q _ F H (Px.refl w.sub) (.int _)⟩
      · obtain ⟨d', h3, h4⟩ := hat j z' h1
        rw [List.getElem?_eq_getElem hlt] at h3
        cases h3
        rw [h4]; exact hp
      · obtain ⟨d', h3, h4⟩ := hat m z'' e
        rw [h4]
        have hml : m < ys.length := Nat.lt_trans hlt' hlt
        rw [List.getElem?_eq_getElem hml] at h3
        cases h3
        have := hm m hlt'
        simpa using this
    · cases hz
  · cases hz
/-- text.join(list or tuple of texts) -/
def joinM : D → List D → Option D
  | .str a, [.lst ds] => (strsOf ds).bind fun ys => if (ys.map (·.length)).sum + ys.length * a.length ≤ 16777216 then some (.str (Txt.join a ys)) else none
  | .str a, [.tup ds] => (strsOf ds).bind fun ys => if (ys.map (·.length)).sum + ys.length * a.length ≤ 16777216 then some (.str (Txt.join a ys)) else none
  | _, _ => none
theorem rm_join : RM K (fun x xs H Q => ∃ a p, ∃ ys : List Str, x = .str a ∧ xs = [.ref p] ∧ (SqL K H p (ys.map V.str) ∨ SqT K H p (ys.map V.str)) ∧
    (ys.map (·.length)).sum + ys.length * a.length ≤ 16777216 ∧ Q (.str (Txt.join a ys)) H) joinM := by
  intro dk F H st x d vs ds z w rx rs hz Q q
  unfold joinM at hz
  split at hz
  · obtain ⟨ys, h1, hz⟩ := bnd hz
    split at hz
    · rename_i ho
      cases hz
      obtain ⟨v, rfl, r⟩ := rs.one
      obtain ⟨p, us, rfl, hl, r2⟩ := r.l w.sub
      cases r2.strs h1
      exact ⟨_, p, ys, rx.str, rfl, .inl (SqL.of hl), ho, q _ F H (Px.refl w.sub) (.str _)⟩
    · cases hz
  · obtain ⟨ys, h1, hz⟩ := bnd hz
    split at hz
    · rename_i ho
      cases hz
      obtain ⟨v, rfl, r⟩ := rs.one
      obtain ⟨p, us, rfl, hl, r2⟩ := r.tup w.sub
      cases r2.strs h1
      exact ⟨_, p, ys, rx.str, rfl, .inr hl, ho, q _ F H (Px.refl w.sub) (.str _)⟩
    · cases hz
  · cases hz

/-! ### repr -/
mutual
theorem Dp.noDict : ∀ {v : V} {d : PyData}, Dp K H v d → d.hasDict = false
  | _, _, .non => rfl
  | _, _, .bl _ => rfl
  | _, _, .int _ => rfl
  | _, _, .str _ => rfl
  | _, _, .lst _ r => by rw [PyData.hasDict]; exact Dp.noDictAll r
  | _, _, .tup _ r => by rw [PyData.hasDict]; exact Dp.noDictAll r
theorem Dp.noDictAll : ∀ {vs : List V} {ds : List PyData}, DpAll K H vs ds → PyData.hasDictAll ds = false
  | _, _, .nil => rfl
  | _, _, .cons a b => by rw [PyData.hasDictAll, Dp.noDict a, Dp.noDictAll b]; rfl
end
def rRepr (K : Fg) : List V → Hp → VK → Prop := fun xs H Q => ∃ x d, xs = [x] ∧ Dp K H x d ∧ d.showable = true ∧ d.depth ≤ 60 ∧ d.shown.length ≤ sizeLine ∧ Q (.str d.shown) H
theorem call_reprD {X : Cx} (hg : X.A.guards = some []) (hu : X.A.units + 64 < cLine) : CallR X (.builtin "repr") (rRepr X.K) := by
  intro pins s σ H xs us Q I rs h
  obtain ⟨x, d, rfl, hd, hs, hdp, hz, q⟩ := h
  obtain ⟨u, rfl, rx⟩ := vals1 rs
  cases id hd with
  | non => cases rx; exact PySem.P.repr_of_none ⟨.str _, H, I.tok _, ⟨_, rfl⟩, q⟩
  | bl b => cases rx; exact PySem.P.repr_of_bool ⟨.str _, H, I.tok _, ⟨_, rfl⟩, q⟩
  | int i =>
    obtain ⟨t, rfl⟩ := rx
    exact PySem.P.repr_of_int (by simpa [PyData.showable] using hs) ⟨.str _, H, I.tok _, ⟨_, rfl⟩, q⟩
  | str y =>
    obtain ⟨t, rfl⟩ := rx
    exact PySem.P.repr_of_str ⟨.str _, H, I.tok _, ⟨_, rfl⟩, q⟩ hz
  | lst h1 h2 =>
    cases rx
    obtain ⟨as, hr⟩ := Dp.reads I _ _ _ hd rfl
    exact repr_of_reads' hr hs (fun z => by rw [Dp.noDict hd] at z; cases z) hg (by omega) (fun _ _ e => e) (fun h' u tk hk => ⟨.str _, H, I.kept hk, ⟨_, rfl⟩, q⟩) hz
  | tup h1 h2 =>
    cases rx
    obtain ⟨as, hr⟩ := Dp.reads I _ _ _ hd rfl
    exact repr_of_reads' hr hs (fun z => by rw [Dp.noDict hd] at z; cases z) hg (by omega) (fun _ _ e => e) (fun h' u tk hk => ⟨.str _, H, I.kept hk, ⟨_, rfl⟩, q⟩) hz
def reprM : List D → Option D
  | [d] => if d.pl && d.py.showable && decide (d.py.depth ≤ 60) && decide (d.py.shown.length ≤ sizeLine) then some (.str d.py.shown) else none
  | _ => none
theorem rc_repr : RC K (rRepr K) reprM := by
  intro dk F H st vs ds z w rx hz Q q
  unfold reprM at hz
  split at hz
  · split at hz
    · rename_i ho
      cases hz
      simp only [Bool.and_eq_true, decide_eq_true_eq] at ho
      obtain ⟨v, rfl, r⟩ := rx.one
      exact ⟨v, _, rfl, r.dp w.sub ho.1.1.1, ho.1.1.2, ho.1.2, ho.2, q _ F H (Px.refl w.sub) (.str _)⟩
    · cases hz
  · cases hz
def strIntM : List D → Option D
  | [.int i] => if i.natAbs.log2 < 1920 then some (.str (toString i)) else none
  | _ => none
theorem rc_strInt : RC K (fun xs H Q => ∃ i, xs = [.int i] ∧ i.natAbs.log2 < 1920 ∧ Q (.str (toString i)) H) strIntM := by
  intro dk F H st vs ds z w rx hz Q q
  unfold strIntM at hz
  split at hz
  · split at hz
    · rename_i ho
      cases hz
      obtain ⟨v, rfl, r⟩ := rx.one
      cases r.int
      exact ⟨_, rfl, ho, q _ F H (Px.refl w.sub) (.str _)⟩
    · cases hz
  · cases hz

/-! ### one-place operations -/
def unI (g : Int → D) : D → Option D
  | .int i => some (g i)
  | _ => none
def unM (f : D → Option D) (fa : ME) : ME := fun env st => (fa env st).bind fun p => (f p.1).map fun z => (z, p.2)
theorem im_neg {ta : TE} {fa : ME} (h : ImW K ta fa) : Im K (tUn (rU fun i => .int (-i)) ta) (unM (unI fun i => .int (-i)) fa) := fun dk H0 F0 F σ H env st d st' g e Q q => by
  obtain ⟨⟨x, s1⟩, h1, e⟩ := bnd e
  obtain ⟨z, h2, e⟩ := mpd e
  cases e
  refine h dk H0 F0 F σ H env st x s1 g h1 _ fun v F1 H1 x1 g1 r1 => ?_
  replace h2 : unI (fun i => .int (-i)) x = some d := h2
  unfold unI at h2
  split at h2
  · cases h2
    cases r1.w.int
    exact ⟨_, rfl, q _ F1 H1 x1 g1 (.int _)⟩
  · cases h2

/-! ### tests -/
def blOf : D → Option Bool
  | .bl b => some b
  | _ => none
def tstM (f : ME) : MT := fun env st => (f env st).bind fun p => (blOf p.1).map fun b => (b, p.2)
theorem blOf_eq {d : D} {b : Bool} (h : blOf d = some b) : d = .bl b := by
  cases d <;> first | (cases h; rfl) | cases h
theorem it_test {te : TE} {f : ME} (h : Im K te f) : ImT K (tTest te) (tstM f) := fun dk H0 F0 F σ H env st b st' g e Q q => by
  obtain ⟨⟨x, s1⟩, h1, e⟩ := bnd e
  obtain ⟨z, h2, e⟩ := mpd e
  cases e
  refine h dk H0 F0 F σ H env st x s1 g h1 _ fun v F1 H1 x1 g1 r1 => ?_
  cases blOf_eq h2
  cases r1
  exact ⟨_, rfl, q F1 H1 x1 g1⟩
/-- truth of any value -/
def truD : D → Option Bool
  | .non => some false
  | .bl b => some b
  | .int i => some (i != 0)
  | .str y => if y.length ≤ sizeLine then some ((y.length : Int) != 0) else none
  | .lst ds => some (!ds.isEmpty)
  | .tup ds => some (!ds.isEmpty)
  | _ => none
def truM (f : ME) : MT := fun env st => (f env st).bind fun p => (truD (dr p.2 p.1)).map fun b => (b, p.2)
theorem Rps.empty {vs : List V} {ds : List D} (r : Rps K dk F vs ds) : vs.isEmpty = ds.isEmpty := by cases r <;> rfl
theorem it_truth {te : TE} {f : ME} (h : ImW K te f) : ImT K (fun σ H Q => te σ H fun x H' => ∃ k, TruV K x H' k ∧ Q k H') (truM f) := fun dk H0 F0 F σ H env st b st' g e Q q => by
  obtain ⟨⟨x, s1⟩, h1, e⟩ := bnd e
  obtain ⟨z, h2, e⟩ := mpd e
  cases e
  refine h dk H0 F0 F σ H env st x s1 g h1 _ fun v F1 H1 x1 g1 r1 => ⟨b, ?_, q F1 H1 x1 g1⟩
  replace h2 : truD (dr _ x) = some b := h2
  have r2 := r1.dr g1.wd
  generalize dr _ x = x' at h2 r2
  unfold truD at h2
  split at h2
  · cases h2; cases r2.non; rfl
  · cases h2; cases r2.bl; rfl
  · cases h2; cases r2.int; rfl
  · split at h2
    · rename_i ho
      cases h2; cases r2.str; exact ⟨ho, rfl⟩
    · cases h2
  · cases h2
    obtain ⟨p, vs, rfl, hl, r⟩ := r2.l g1.wd.sub
    exact .inl ⟨vs, SqL.of hl, by rw [r.empty]⟩
  · cases h2
    obtain ⟨p, vs, rfl, hl, r⟩ := r2.tup g1.wd.sub
    exact .inr (.inl ⟨vs, hl, by rw [r.empty]⟩)
  · cases h2
def andM (f h : MT) : MT := fun env st => (f env st).bind fun p => if p.1 then h env p.2 else some (false, p.2)
def orM (f h : MT) : MT := fun env st => (f env st).bind fun p => if p.1 then some (true, p.2) else h env p.2
def notM (f : MT) : MT := fun env st => (f env st).map fun p => (!p.1, p.2)
theorem it_and {t u : TT} {f h : MT} (h1 : ImT K t f) (h2 : ImT K u h) : ImT K (tAnd t u) (andM f h) := fun dk H0 F0 F σ H env st b st' g e Q q => by
  obtain ⟨⟨x, s1⟩, e1, e⟩ := bnd e
  refine h1 dk H0 F0 F σ H env st x s1 g e1 _ fun F1 H1 x1 g1 => ?_
  cases x with
  | true => exact h2 dk H0 F0 F1 σ H1 env s1 b st' g1 e Q fun F2 H2 x2 g2 => q F2 H2 (x1.trans x2) g2
  | false => cases e; exact q F1 H1 x1 g1
theorem it_or {t u : TT} {f h : MT} (h1 : ImT K t f) (h2 : ImT K u h) : ImT K (tOr t u) (orM f h) := fun dk H0 F0 F σ H env st b st' g e Q q => by
  obtain ⟨⟨x, s1⟩, e1, e⟩ := bnd e
  refine h1 dk H0 F0 F σ H env st x s1 g e1 _ fun F1 H1 x1 g1 => ?_
  cases x with
  | false => exact h2 dk H0 F0 F1 σ H1 env s1 b st' g1 e Q fun F2 H2 x2 g2 => q F2 H2 (x1.trans x2) g2
  | true => cases e; exact q F1 H1 x1 g1
theorem it_not {t : TT} {f : MT} (h1 : ImT K t f) : ImT K (tNot t) (notM f) := fun dk H0 F0 F σ H env st b st' g e Q q => by
  obtain ⟨⟨x, s1⟩, e1, e⟩ := mpd e
  cases e
  exact h1 dk H0 F0 F σ H env st x s1 g e1 _ fun F1 H1 x1 g1 => q F1 H1 x1 g1
/-! as values -/
def andV (f h : ME) : ME := fun env st => (f env st).bind fun p => (blOf p.1).bind fun b => if b then h env p.2 else some (.bl false, p.2)
def orV (f h : ME) : ME := fun env st => (f env st).bind fun p => (blOf p.1).bind fun b => if b then some (.bl true, p.2) else h env p.2
def notV (f : ME) : ME := fun env st => (f env st).bind fun p => (blOf p.1).map fun b => (.bl (!b), p.2)
theorem im_andV {t u : TE} {f h : ME} (h1 : Im K t f) (h2 : Im K u h) : Im K (tAndV t u) (andV f h) := fun dk H0 F0 F σ H env st d st' g e Q q => by
  obtain ⟨⟨x, s1⟩, e1, e⟩ := bnd e
  obtain ⟨b, e2, e⟩ := bnd e
  refine h1 dk H0 F0 F σ H env st x s1 g e1 _ fun v F1 H1 x1 g1 r1 => ?_
  cases blOf_eq e2
  cases r1
  refine ⟨b, rfl, ?_⟩
  cases b with
  | true => exact h2 dk H0 F0 F1 σ H1 env s1 d st' g1 e Q fun v F2 H2 x2 g2 r2 => q v F2 H2 (x1.trans x2) g2 r2
  | false => cases e; exact q _ F1 H1 x1 g1 (.bl false)
theorem im_orV {t u : TE} {f h : ME} (h1 : Im K t f) (h2 : Im K u h) : Im K (tOrV t u) (orV f h) := fun dk H0 F0 F σ H env st d st' g e Q q => by
  obtain ⟨⟨x, s1⟩, e1, e⟩ := bnd e
  obtain ⟨b, e2, e⟩ := bnd e
  refine h1 dk H0 F0 F σ H env st x s1 g e1 _ fun v F1 H1 x1 g1 r1 => ?_
  cases blOf_eq e2
  cases r1
  refine ⟨b, rfl, ?_⟩
  cases b with
  | false => exact h2 dk H0 F0 F1 σ H1 env s1 d st' g1 e Q fun v F2 H2 x2 g2 r2 => q v F2 H2 (x1.trans x2) g2 r2
  | true => cases e; exact q _ F1 H1 x1 g1 (.bl true)
theorem im_notV {t : TE} {f : ME} (h1 : Im K t f) : Im K (tNotV t) (notV f) := fun dk H0 F0 F σ H env st d st' g e Q q => by
  obtain ⟨⟨x, s1⟩, e1, e⟩ := bnd e
  obtain ⟨b, e2, e⟩ := mpd e
  cases e
  refine h1 dk H0 F0 F σ H env st x s1 g e1 _ fun v F1 H1 x1 g1 r1 => ?_
  cases blOf_eq e2
  cases r1
  exact ⟨b, rfl, q _ F1 H1 x1 g1 (.bl _)⟩
def ifM (c : MT) (f h : ME) : ME := fun env st => (c env st).bind fun p => if p.1 then f env p.2 else h env p.2
theorem im_if {t : TT} {ta tb : TE} {c : MT} {f h : ME} (h0 : ImT K t c) (h1 : Im K ta f) (h2 : Im K tb h) : Im K (tIf t ta tb) (ifM c f h) := fun dk H0 F0 F σ H env st d st' g e Q q => by
  obtain ⟨⟨x, s1⟩, e1, e⟩ := bnd e
  refine h0 dk H0 F0 F σ H env st x s1 g e1 _ fun F1 H1 x1 g1 => ?_
  cases x with
  | true => exact h1 dk H0 F0 F1 σ H1 env s1 d st' g1 e Q fun v F2 H2 x2 g2 r2 => q v F2 H2 (x1.trans x2) g2 r2
  | false => exact h2 dk H0 F0 F1 σ H1 env s1 d st' g1 e Q fun v F2 H2 x2 g2 r2 => q v F2 H2 (x1.trans x2) g2 r2
/-- a op b op' c -/
def chM (f f' : D → D → Option D) (fa fb fc : ME) : ME := fun env st => (fa env st).bind fun p => (fb env p.2).bind fun q => (f p.1 q.1).bind fun z => (blOf z).bind fun b =>
  if b then (fc env q.2).bind fun r => (f' q.1 r.1).map fun z => (z, r.2) else some (.bl false, q.2)
theorem im_chain {r r' : R2} {f f' : D → D → Option D} {ta tb tc : TE} {fa fb fc : ME} (hr : RO K r f) (hr' : RO K r' f') (ha : ImW K ta fa) (hb : ImW K tb fb) (hc : ImW K tc fc) : Im K (tChain r r' ta tb tc) (chM f f' fa fb fc) := fun dk H0 F0 F σ H env st d st' g e Q q => by
  obtain ⟨⟨x, s1⟩, h1, e⟩ := bnd e
  obtain ⟨⟨y, s2⟩, h2, e⟩ := bnd e
  obtain ⟨z, h3, e⟩ := bnd e
  obtain ⟨b, h4, e⟩ := bnd e
  refine ha dk H0 F0 F σ H env st x s1 g h1 _ fun v F1 H1 x1 g1 r1 => ?_
  refine hb dk H0 F0 F1 σ H1 env s1 y s2 g1 h2 _ fun u F2 H2 x2 g2 r2 => ?_
  refine hr dk F2 H2 s2 v u x y z g2.wd (r1.ext x2).w r2.w h3 _ fun w F3 H3 px r3 => ?_
  cases blOf_eq h4
  cases r3
  refine ⟨b, rfl, ?_⟩
  have g3 := g2.px px
  have x3 := (x1.trans x2).trans px.ext
  cases b with
  | false => cases e; exact q _ F3 H3 x3 g3 (.bl false)
  | true =>
    replace e : ((fc env s2).bind fun r => (f' y r.1).map fun z => (z, r.2)) = some (d, st') := e
    obtain ⟨⟨t, s4⟩, h5, e⟩ := bnd e
    obtain ⟨z', h6, e⟩ := mpd e
    cases e
    refine hc dk H0 F0 F3 σ H3 env s2 t s4 g3 h5 _ fun w' F4 H4 x4 g4 r4 => ?_
    exact hr' dk F4 H4 s4 u w' y t d g4.wd ((r2.ext px.ext).ext x4).w r4.w h6 Q fun v5 F5 H5 px5 r5 => q v5 F5 H5 ((x3.trans x4).trans px5.ext) (g4.px px5) r5
end
end MD

set_option Elab.async false
set_option linter.all false
set_option maxRecDepth 100000
set_option maxHeartbeats 1000000
namespace MD
open PySem L2
variable {ww : WW}

inductive Fl where
  | nx (env : Sg) | rt (d : D) | bk (env : Sg) | ct (env : Sg)
abbrev MS := Sg → S → Option (Fl × S)
def Dn [WW] (K : Fg) (dk : Dk) (H0 : Hp) (F0 F : Fz) (E : Ends) (st : S) : Fl → Prop
  | .nx env => ∀ F' σ H, Le F F' → Good K dk H0 F0 F' σ H env st → E.nx σ H
  | .bk env => ∀ F' σ H, Le F F' → Good K dk H0 F0 F' σ H env st → E.bk σ H
  | .ct env => ∀ F' σ H, Le F F' → Good K dk H0 F0 F' σ H env st → E.ct σ H
  | .rt d => ∀ v F' H, Ext dk F0 H0 F' H → Wd K dk F' H st → Rp K dk F' v d → E.rt v H
def ImS [WW] (K : Fg) (ts : TS) (f : MS) : Prop := ∀ (dk : Dk) (H0 : Hp) (F0 F : Fz) (σ : L2.St) (H : Hp) (env : Sg) (st : S) (fl : Fl) (st' : S), Good K dk H0 F0 F σ H env st → f env st = some (fl, st') → ∀ E : Ends, Dn K dk H0 F0 F E st' fl → ts E σ H
theorem Dn.mono {K : Fg} {dk : Dk} {H0 : Hp} {F0 F F' : Fz} {E : Ends} {st : S} {fl : Fl} (le : Le F F') (h : Dn K dk H0 F0 F E st fl) : Dn K dk H0 F0 F' E st fl := by
  cases fl with
  | nx e => exact fun F2 σ H l => h F2 σ H (le.trans l)
  | bk e => exact fun F2 σ H l => h F2 σ H (le.trans l)
  | ct e => exact fun F2 σ H l => h F2 σ H (le.trans l)
  | rt d => exact h

section
variable {K : Fg} {dk : Dk} {F F' F0 : Fz} {H H' H0 : Hp} {σ : L2.St} {env : Sg} {st : S}
/-! ### slots stored -/
theorem Good.set {i : Nat} {x : V} {d : D} (g : Good K dk H0 F0 F σ H env st) (r : Rp K dk F x d) : Good K dk H0 F0 F (σ.set i (some x)) H (env.set i (.val d)) st := by
  refine ⟨g.wd, g.ext, by rw [List.length_set, List.length_set]; exact g.len, fun j s e => ?_, fun j k ds es p hne e1 e2 e3 => ?_⟩
  · by_cases hj : i = j
    · subst hj
      by_cases hl : i < env.length
      · rw [List.getElem?_set_self hl] at e
        cases e
        rw [List.getElem?_set_self (by rw [g.len]; exact hl)]
        exact ⟨x, rfl, r⟩
      · rw [List.getElem?_eq_none (by rw [List.length_set]; omega)] at e
        cases e
    · rw [List.getElem?_set_ne hj] at e
      rw [List.getElem?_set_ne hj]
      exact g.sl j s e
  · have nj : i ≠ j := fun z => by
      subst z
      by_cases hl : i < env.length
      · rw [List.getElem?_set_self hl] at e1; cases e1
      · rw [List.getElem?_eq_none (by rw [List.length_set]; omega)] at e1; cases e1
    have nk : i ≠ k := fun z => by
      subst z
      by_cases hl : i < env.length
      · rw [List.getElem?_set_self hl] at e2; cases e2
      · rw [List.getElem?_eq_none (by rw [List.length_set]; omega)] at e2; cases e2
    rw [List.getElem?_set_ne nj] at e1 e3
    rw [List.getElem?_set_ne nk] at e2 ⊢
    exact g.dis j k ds es p hne e1 e2 e3
theorem Good.setO {i : Nat} {p : Addr} {vs : List V} {ds : Own} (g : Good K dk H0 F0 F σ H env st) (hp : ds.1.At H p vs) (fp : F.out p) (h0 : H0 p = none) (n1 : p ≠ dk.1) (n2 : p ≠ dk.2)
    (no : ∀ (j : Nat) (es : Own), env[j]? = some (.own es) → σ[j]? ≠ some (some (.ref p))) (r : Rps K dk F vs ds.2) : Good K dk H0 F0 F (σ.set i (some (.ref p))) H (env.set i (.own ds)) st := by
  refine ⟨g.wd, g.ext, by rw [List.length_set, List.length_set]; exact g.len, fun j s e => ?_, fun j k es es' q hne e1 e2 e3 => ?_⟩
  · by_cases hj : i = j
    · subst hj
      by_cases hl : i < env.length
      · rw [List.getElem?_set_self hl] at e
        cases e
        rw [List.getElem?_set_self (by rw [g.len]; exact hl)]
        exact ⟨p, vs, rfl, hp, fp, h0, n1, n2, r⟩
      · rw [List.getElem?_eq_none (by rw [List.length_set]; omega)] at e
        cases e
    · rw [List.getElem?_set_ne hj] at e
      rw [List.getElem?_set_ne hj]
      exact g.sl j s e
  · by_cases hj : i = j
    · subst hj
      have nk : i ≠ k := hne
      rw [List.getElem?_set_ne nk] at e2 ⊢
      by_cases hl : i < env.length
      · rw [List.getElem?_set_self (by rw [g.len]; exact hl)] at e3
        cases e3
        exact no k es' e2
      · rw [List.getElem?_eq_none (by rw [List.length_set]; omega)] at e1; cases e1
    · rw [List.getElem?_set_ne hj] at e1 e3
      by_cases hk : i = k
      · subst hk
        by_cases hl : i < env.length
        · rw [List.getElem?_set_self (by rw [g.len]; exact hl)]
          intro z
          cases z
          exact no j es e1 e3
        · rw [List.getElem?_eq_none (by rw [List.length_set]; omega)] at e2; cases e2
      · rw [List.getElem?_set_ne hk] at e2 ⊢
        exact g.dis j k es es' q hne e1 e2 e3
theorem Ow.At.nf {p : Addr} {o : HO} : ∀ {w : Ow} {vs : List V}, w.At (L2.upd H p o) p vs → ¬ Fro o
  | .lst, _, h => by
    have h : L2.upd H p o p = _ := h
    rw [upd_same] at h; cases h
    rintro ⟨_, _, z⟩; cases z
  | .dic _, _, h => by
    have h := h.1
    rw [upd_same] at h; cases h
    rintro ⟨_, _, z⟩; cases z
/-- a thing that is neither frozen nor in the store is changed -/
theorem Wd.upd {p : Addr} {o' : HO} (w : Wd K dk F H st) (fp : F.out p) (n1 : p ≠ dk.1) (n2 : p ≠ dk.2) : Wd K dk F (L2.upd H p o') st := by
  refine ⟨fun a u e => ?_, by rw [upd_ne n1.symm]; exact w.d1, by rw [upd_ne n2.symm]; exact w.d2, w.f1, w.f2, w.ne, w.ml, w.nd, fun n a u h1 h2 => ?_⟩
  · rw [upd_ne (ne_of_none e fp.1)]; exact w.sub a u e
  · obtain ⟨q1, q2⟩ := w.ob n a u h1 h2
    have na : a ≠ p := fun z => fp.2 (z ▸ List.mem_of_getElem? h1)
    exact ⟨q1, q2.keep (fun _ e => by rw [upd_ne na]; exact e) (Le.refl F)⟩
theorem Ext.upd {p : Addr} {o' : HO} (x : Ext dk F0 H0 F H) (h0 : H0 p = none) (nf : ¬ Fro o' := by rintro ⟨_, _, z⟩; cases z) : Ext dk F0 H0 F (L2.upd H p o') := by
  refine ⟨fun a o e n1 n2 n3 => ?_, x.f, x.n, fun a e z => ?_, x.u, fun a o e f => x.k a o (updK nf a o e f) f⟩
  · rw [upd_ne (ne_of_none e h0)]; exact x.h a o e n1 n2 n3
  · by_cases na : a = p
    · subst na; rw [upd_same] at z; cases z
    · rw [upd_ne na] at z; exact x.m a e z
/-- an own list is changed -/
theorem Good.mut {i : Nat} {p : Addr} {vs' : List V} {o' : HO} {ds ds' : Own} (g : Good K dk H0 F0 F σ H env st) (he : env[i]? = some (.own ds)) (hs : σ[i]? = some (some (.ref p))) (hw : ds'.1.At (upd H p o') p vs') (r : Rps K dk F vs' ds'.2) :
    Good K dk H0 F0 F σ (upd H p o') (env.set i (.own ds')) st := by
  obtain ⟨p', vs, h1, h2, h3, h4, h5, h6, h7⟩ := g.sl i _ he
  rw [hs] at h1
  have : p = p' := V.ref.inj (Option.some.inj h1)
  subst this
  have hil : i < env.length := by
    by_cases hl : i < env.length
    · exact hl
    · rw [List.getElem?_eq_none (by omega)] at he; cases he
  refine ⟨g.wd.upd h3 h5 h6, g.ext.upd h4 hw.nf, by rw [List.length_set]; exact g.len, fun j s e => ?_, fun j k es es' q hne e1 e2 e3 => ?_⟩
  · by_cases hj : i = j
    · subst hj
      rw [List.getElem?_set_self hil] at e
      cases e
      rw [hs]
      exact ⟨p, vs', rfl, hw, h3, h4, h5, h6, r⟩
    · rw [List.getElem?_set_ne hj] at e
      have q := g.sl j s e
      cases s with
      | un => trivial
      | val d => exact q
      | cap o => cases o <;> exact q
      | own es =>
        obtain ⟨p2, us, k1, k2, k3⟩ := q
        have np : p2 ≠ p := fun z => by
          subst z
          exact g.dis i j ds es p2 hj he e hs (join_eq k1)
        exact ⟨p2, us, k1, k2.keep fun o e => by rw [upd_ne np]; exact e, k3⟩
  · have back : ∀ (m : Nat) (zs : Own), (env.set i (.own ds'))[m]? = some (.own zs) → ∃ zs', env[m]? = some (.own zs') := fun m zs e => by
      by_cases hm : i = m
      · subst hm; exact ⟨ds, he⟩
      · rw [List.getElem?_set_ne hm] at e; exact ⟨zs, e⟩
    obtain ⟨z1, b1⟩ := back j es e1
    obtain ⟨z2, b2⟩ := back k es' e2
    exact g.dis j k z1 z2 q hne b1 b2 e3
/-- a thing that nobody knows of is changed -/
theorem Good.mutT {p : Addr} {o o' : HO} (g : Good K dk H0 F0 F σ H env st) (hp : H p = some o) (fp : F.out p) (h0 : H0 p = none) (n1 : p ≠ dk.1) (n2 : p ≠ dk.2)
    (no : ∀ (j : Nat) (es : Own), env[j]? = some (.own es) → σ[j]? ≠ some (some (.ref p))) (nf : ¬ Fro o' := by rintro ⟨_, _, z⟩; cases z) : Good K dk H0 F0 F σ (upd H p o') env st := by
  refine ⟨g.wd.upd fp n1 n2, g.ext.upd h0 nf, g.len, fun j s e => ?_, g.dis⟩
  · have q := g.sl j s e
    cases s with
    | un => trivial
    | val d => exact q
    | cap o => cases o <;> exact q
    | own es =>
      obtain ⟨p2, us, k1, k2, k3⟩ := q
      have np : p2 ≠ p := fun z => by
        subst z
        exact no j es e (join_eq k1)
      exact ⟨p2, us, k1, k2.keep fun o e => by rw [upd_ne np]; exact e, k3⟩
/-- other slots, no more known -/
theorem Good.reslot {σ' : L2.St} {env' : Sg} (g : Good K dk H0 F0 F σ H env st) (hl : σ'.length = env'.length) (h : ∀ (i : Nat) (s : Sl), env'[i]? = some s → s = .un ∨ (env[i]? = some s ∧ σ'[i]? = σ[i]?)) : Good K dk H0 F0 F σ' H env' st := by
  refine ⟨g.wd, g.ext, hl, fun i s e => ?_, fun i j ds es p hne e1 e2 e3 => ?_⟩
  · rcases h i s e with z | ⟨z1, z2⟩
    · subst z; trivial
    · rw [z2]; exact g.sl i s z1
  · rcases h i _ e1 with z | ⟨z1, z2⟩
    · cases z
    · rcases h j _ e2 with z | ⟨y1, y2⟩
      · cases z
      · rw [z2] at e3; rw [y2]; exact g.dis i j ds es p hne z1 y1 e3

/-! ### small statements -/
def nxM : MS := fun env st => some (.nx env, st)
theorem is_next : ImS K tNext nxM := fun dk H0 F0 F σ H env st fl st' g e E h => by
  cases e
  exact h F σ H (Le.refl F) g
def seqM (f h : MS) : MS := fun env st => (f env st).bind fun p => match p.1 with
  | .nx e => h e p.2
  | fl => some (fl, p.2)
theorem is_seq {t u : TS} {f h : MS} (h1 : ImS K t f) (h2 : ImS K u h) : ImS K (tSeq t u) (seqM f h) := fun dk H0 F0 F σ H env st fl st' g e E hd => by
  obtain ⟨⟨fl1, s1⟩, e1, e⟩ := bnd e
  cases fl1 with
  | nx env1 => exact h1 dk H0 F0 F σ H env st _ s1 g e1 _ fun F1 σ1 H1 le1 g1 => h2 dk H0 F0 F1 σ1 H1 env1 s1 fl st' g1 e E (hd.mono le1)
  | rt d => cases e; exact h1 dk H0 F0 F σ H env st _ s1 g e1 _ hd
  | bk d => cases e; exact h1 dk H0 F0 F σ H env st _ s1 g e1 _ hd
  | ct d => cases e; exact h1 dk H0 F0 F σ H env st _ s1 g e1 _ hd
def retM (f : ME) : MS := fun env st => (f env st).map fun p => (.rt p.1, p.2)
theorem is_ret {te : TE} {f : ME} (h : Im K te f) : ImS K (tRet te) (retM f) := fun dk H0 F0 F σ H env st fl st' g e E hd => by
  obtain ⟨⟨d, s1⟩, e1, e⟩ := mpd e
  cases e
  exact h dk H0 F0 F σ H env st d s1 g e1 _ fun v F1 H1 x1 g1 r1 => hd v F1 H1 g1.ext g1.wd r1
def retN : MS := fun env st => some (.rt .non, st)
theorem is_retN : ImS K tRetN retN := fun dk H0 F0 F σ H env st fl st' g e E hd => by
  cases e
  exact hd .non F H g.ext g.wd .non
def ifS (c : MT) (f h : MS) : MS := fun env st => (c env st).bind fun p => if p.1 then f env p.2 else h env p.2
theorem is_if {c : TT} {t u : TS} {fc : MT} {f h : MS} (h0 : ImT K c fc) (h1 : ImS K t f) (h2 : ImS K u h) : ImS K (tIfS c t u) (ifS fc f h) := fun dk H0 F0 F σ H env st fl st' g e E hd => by
  obtain ⟨⟨b, s1⟩, e1, e⟩ := bnd e
  refine h0 dk H0 F0 F σ H env st b s1 g e1 _ fun F1 H1 x1 g1 => ?_
  cases b with
  | true => exact h1 dk H0 F0 F1 σ H1 env s1 fl st' g1 e E (hd.mono x1.f)
  | false => exact h2 dk H0 F0 F1 σ H1 env s1 fl st' g1 e E (hd.mono x1.f)
def dropM (f : ME) : MS := fun env st => (f env st).map fun p => (.nx env, p.2)
theorem is_drop {te : TE} {f : ME} (h : Im K te f) : ImS K (tDrop te) (dropM f) := fun dk H0 F0 F σ H env st fl st' g e E hd => by
  obtain ⟨⟨d, s1⟩, e1, e⟩ := mpd e
  cases e
  exact h dk H0 F0 F σ H env st d s1 g e1 _ fun v F1 H1 x1 g1 r1 => hd F1 σ H1 x1.f g1
def bkM : MS := fun env st => some (.bk env, st)
def ctM : MS := fun env st => some (.ct env, st)
theorem is_break : ImS K tBreak bkM := fun dk H0 F0 F σ H env st fl st' g e E h => by
  cases e
  exact h F σ H (Le.refl F) g
theorem is_cont : ImS K tCont ctM := fun dk H0 F0 F σ H env st fl st' g e E h => by
  cases e
  exact h F σ H (Le.refl F) g

/-! ### targets -/
abbrev MG := D → Sg → Option Sg
structure Tg (is : List Nat) (σ σ' : L2.St) (env env' : Sg) : Prop where
  len : σ'.length = σ.length
  elen : env'.length = env.length
  same : ∀ (i : Nat), i ∉ is → σ'[i]? = σ[i]? ∧ env'[i]? = env[i]?
def ImG [WW] (K : Fg) (g : TG) (t : MG) (is : List Nat) : Prop := ∀ (dk : Dk) (H0 : Hp) (F0 F : Fz) (σ : L2.St) (H : Hp) (env : Sg) (st : S) (v : V) (d : D) (env' : Sg), Good K dk H0 F0 F σ H env st → Rp K dk F v d → t d env = some env' →
  ∀ Q : L2.St → Hp → Prop, (∀ σ', Good K dk H0 F0 F σ' H env' st → Tg is σ σ' env env' → Q σ' H) → g v σ H Q
def ImGs [WW] (K : Fg) (g : TGs) (t : List D → Sg → Option Sg) (is : List Nat) : Prop := ∀ (dk : Dk) (H0 : Hp) (F0 F : Fz) (σ : L2.St) (H : Hp) (env : Sg) (st : S) (vs : List V) (ds : List D) (env' : Sg), Good K dk H0 F0 F σ H env st → Rps K dk F vs ds → t ds env = some env' →
  ∀ Q : L2.St → Hp → Prop, (∀ σ', Good K dk H0 F0 F σ' H env' st → Tg is σ σ' env env' → Q σ' H) → g vs σ H Q
def nameT (i : Nat) : MG := fun d env => some (env.set i (.val d))
theorem ig_name (i : Nat) : ImG K (gName i) (nameT i) [i] := fun dk H0 F0 F σ H env st v d env' g r e Q q => by
  cases e
  refine q _ (g.set r) ⟨List.length_set, List.length_set, fun j hj => ?_⟩
  have hj' : i ≠ j := fun z => hj (by simp [z])
  exact ⟨List.getElem?_set_ne hj', List.getElem?_set_ne hj'⟩
def nilT : List D → Sg → Option Sg
  | [], env => some env
  | _, _ => none
def consT (t : MG) (u : List D → Sg → Option Sg) : List D → Sg → Option Sg
  | d :: ds, env => (t d env).bind fun e => u ds e
  | _, _ => none
theorem igs_nil : ImGs K gNil nilT [] := fun dk H0 F0 F σ H env st vs ds env' g r e Q q => by
  unfold nilT at e
  split at e
  · cases e
    cases r
    exact ⟨rfl, q σ g ⟨rfl, rfl, fun _ _ => ⟨rfl, rfl⟩⟩⟩
  · cases e
theorem igs_cons {g : TG} {gs : TGs} {t : MG} {u : List D → Sg → Option Sg} {is js : List Nat} (h1 : ImG K g t is) (h2 : ImGs K gs u js) : ImGs K (gCons g gs) (consT t u) (is ++ js) := fun dk H0 F0 F σ H env st vs ds env' gd r e Q q => by
  unfold consT at e
  split at e
  · obtain ⟨e1, h3, h4⟩ := bnd e
    cases r with
    | cons a b =>
      refine ⟨_, _, rfl, h1 dk H0 F0 F σ H env st _ _ e1 gd a h3 _ fun σ1 g1 t1 => ?_⟩
      refine h2 dk H0 F0 F σ1 H e1 st _ _ env' g1 b h4 _ fun σ2 g2 t2 => q σ2 g2 ⟨t2.len.trans t1.len, t2.elen.trans t1.elen, fun i hi => ?_⟩
      have a1 := t1.same i fun z => hi (List.mem_append_left _ z)
      have a2 := t2.same i fun z => hi (List.mem_append_right _ z)
      exact ⟨a2.1.trans a1.1, a2.2.trans a1.2⟩
  · cases e
def tupT (n : Nat) (u : List D → Sg → Option Sg) : MG := fun d env => match d with
  | .tup ds => if ds.length = n then u ds env else none
  | _ => none
theorem ig_tup {gs : TGs} {u : List D → Sg → Option Sg} {js : List Nat} {n : Nat} (h : ImGs K gs u js) : ImG K (gTup K n gs) (tupT n u) js := fun dk H0 F0 F σ H env st v d env' g r e Q q => by
  unfold tupT at e
  split at e
  · split at e
    · rename_i hn
      cases r with
      | tup h1 h2 =>
        exact ⟨_, _, rfl, g.wd.sub.sqT h1, by rw [h2.length]; exact hn, h dk H0 F0 F σ H env st _ _ env' g h2 e Q q⟩
    · cases e
  · cases e
def asgM (t : MG) (f : ME) : MS := fun env st => (f env st).bind fun p => (t p.1 env).map fun e => (.nx e, p.2)
theorem is_asg {te : TE} {g : TG} {t : MG} {f : ME} {is : List Nat} (h : Im K te f) (hg : ImG K g t is) : ImS K (tAsg te g) (asgM t f) := fun dk H0 F0 F σ H env st fl st' gd e E hd => by
  obtain ⟨⟨d, s1⟩, e1, e⟩ := bnd e
  obtain ⟨en, e2, e⟩ := mpd e
  cases e
  refine h dk H0 F0 F σ H env st d s1 gd e1 _ fun v F1 H1 x1 g1 r1 => ?_
  exact hg dk H0 F0 F1 σ H1 env s1 v d en g1 r1 e2 _ fun σ' g2 _ => hd F1 σ' H1 x1.f g2
/-- a new list for a name that will change it -/
def ownM (i : Nat) (f : MA) : MS := fun env st => (f env st).map fun p => (.nx (env.set i (.own (.lst, p.1))), p.2)
theorem is_own {te : TE} {f : MA} (i : Nat) (h : ImF K te f) : ImS K (tAsg te (gName i)) (ownM i f) := fun dk H0 F0 F σ H env st fl st' g e E hd => by
  obtain ⟨⟨ds, s1⟩, e1, e⟩ := mpd e
  cases e
  refine h dk H0 F0 F σ H env st ds s1 g e1 _ fun p vs F1 H1 x1 g1 hp fp hl r => ?_
  have nd := g.nedk hp
  exact hd F1 _ H1 x1.f (g1.setO (ds := (.lst, ds)) hl fp (g.fresh0 hp) nd.1 nd.2 (g.noown hp) r)
/-- a, b = e1, e2 -/
def two (i j : Nat) (env : Sg) : List D → Option Sg
  | [d, e] => some ((env.set i (.val d)).set j (.val e))
  | _ => none
def parM (i j : Nat) (fa : MA) : MS := fun env st => (fa env st).bind fun p => (two i j env p.1).map fun e => (.nx e, p.2)
theorem is_par {ta : TA} {fa : MA} (i j : Nat) (h : ImA K ta fa) : ImS K (tPar i j ta) (parM i j fa) := fun dk H0 F0 F σ H env st fl st' g e E hd => by
  obtain ⟨⟨ds, s1⟩, e1, e⟩ := bnd e
  obtain ⟨en, e2, e⟩ := mpd e
  cases e
  refine h dk H0 F0 F σ H env st ds s1 g e1 _ fun vs F1 H1 x1 g1 r1 => ?_
  replace e2 : two i j env ds = some en := e2
  unfold two at e2
  split at e2
  · cases e2
    cases r1 with
    | cons a b => cases b with
      | cons b c =>
        cases c
        exact ⟨_, _, rfl, hd F1 _ H1 x1.f ((g1.set a).set b)⟩
  · cases e2
/-- x op= e -/
def augM (i : Nat) (op : D → D → Option D) (f : ME) : MS := fun env st => match env[i]? with
  | some (.val x) => (f env st).bind fun p => (op x p.1).map fun z => (.nx (env.set i (.val z)), p.2)
  | _ => none
theorem is_aug {te : TE} {ti : TIp} {op : D → D → Option D} {f : ME} (i : Nat) (hr : RO K ti op) (h : ImW K te f) : ImS K (tAug i te ti) (augM i op f) := fun dk H0 F0 F σ H env st fl st' g e E hd => by
  unfold augM at e
  split at e
  · rename_i x hx
    obtain ⟨⟨d, s1⟩, e1, e⟩ := bnd e
    obtain ⟨z, e2, e⟩ := mpd e
    cases e
    obtain ⟨v, h1, h2⟩ := g.sl i _ hx
    refine ⟨v, join_eq h1, h dk H0 F0 F σ H env st d s1 g e1 _ fun u F1 H1 x1 g1 r1 => ?_⟩
    exact hr dk F1 H1 s1 v u x d z g1.wd (.rp (h2.mono x1.f)) r1.w e2 _ fun w F2 H2 px r2 => hd F2 _ H2 (x1.f.trans px.f) ((g1.px px).set r2)
  · cases e
/-- a name's own list is changed no more -/
def frzE (i : Nat) (env : Sg) : Sg := match env[i]? with
  | some (.own (.lst, ds)) => env.set i (.val (.lst ds))
  | some (.own (.dic ks, ds)) => env.set i (.val (.dic ks ds))
  | _ => env
theorem Good.frz1 {i : Nat} {w : Own} {o : HO} {d : D} {p : Addr} (g : Good K dk H0 F0 F σ H env st) (he : env[i]? = some (.own w)) (hs : σ[i]? = some (some (.ref p))) (h2 : H p = some o) (h3 : F.out p) (h4 : H0 p = none) (h5 : p ≠ dk.1) (h6 : p ≠ dk.2)
    (r : Rp K dk (F.up p o) (.ref p) d) : Good K dk H0 F0 (F.up p o) σ H (env.set i (.val d)) st := by
  have hil : i < env.length := by
    by_cases hl : i < env.length
    · exact hl
    · rw [List.getElem?_eq_none (by omega)] at he; cases he
  -- first forget the slot, then freeze, then store it again
  have g1 : Good K dk H0 F0 F σ H (env.set i .un) st := g.reslot (by rw [List.length_set]; exact g.len) fun j s e => by
    by_cases hj : i = j
    · subst hj
      rw [List.getElem?_set_self hil] at e
      cases e; exact .inl rfl
    · rw [List.getElem?_set_ne hj] at e; exact .inr ⟨e, rfl⟩
  have g2 := g1.freeze (p := p) h2 h3 h4 h5 h6 fun j es e => by
    by_cases hj : i = j
    · subst hj
      rw [List.getElem?_set_self hil] at e; cases e
    · rw [List.getElem?_set_ne hj] at e
      exact g.dis i j _ es p hj he e hs
  have g3 := g2.set (i := i) r
  rw [List.set_set] at g3
  have es : σ.set i (some (.ref p)) = σ := by
    apply List.ext_getElem?
    intro j
    by_cases hj : i = j
    · subst hj
      rw [List.getElem?_set_self (by rw [g.len]; exact hil), hs]
    · rw [List.getElem?_set_ne hj]
  rw [es] at g3
  exact g3
theorem Good.frzE (i : Nat) (g : Good K dk H0 F0 F σ H env st) : ∃ F', Le F F' ∧ Good K dk H0 F0 F' σ H (frzE i env) st := by
  unfold MD.frzE
  split
  · rename_i ds he
    obtain ⟨p, vs, h1, h2, h3, h4, h5, h6, h7⟩ := g.sl i _ he
    have le : Le F (F.up p (.lst vs)) := Le.new h3.1
    exact ⟨_, le, g.frz1 he (join_eq h1) h2 h3 h4 h5 h6 (.lst Fz.up_same (h7.mono le))⟩
  · rename_i ks ds he
    obtain ⟨p, vs, h1, ⟨h2, h2'⟩, h3, h4, h5, h6, h7⟩ := g.sl i _ he
    have le : Le F (F.up p (.dK (ks.zip vs))) := Le.new h3.1
    exact ⟨_, le, g.frz1 he (join_eq h1) h2 h3 h4 h5 h6 (.dic Fz.up_same h2' (h7.mono le))⟩
  · exact ⟨F, Le.refl F, g⟩
def frzM (i : Nat) (f : MS) : MS := fun env st => f (frzE i env) st
theorem is_frz {t : TS} {f : MS} (i : Nat) (h : ImS K t f) : ImS K t (frzM i f) := fun dk H0 F0 F σ H env st fl st' g e E hd => by
  obtain ⟨F1, le, g1⟩ := g.frzE i
  exact h dk H0 F0 F1 σ H (frzE i env) st fl st' g1 e E (hd.mono le)
/-- x.append(e), x.extend(e) of a name's own list -/
def appM (i : Nat) (f : ME) : MS := fun env st => match env[i]? with
  | some (.own (.lst, ds)) => if ds.length < sizeLine then (f env st).map fun p => (.nx (env.set i (.own (.lst, ds ++ [p.1]))), p.2) else none
  | _ => none
theorem is_app {te : TE} {f : ME} (i : Nat) (h : Im K te f) : ImS K (tDrop (tBM K "list" rAppend (tVar i) (tCons te tNil))) (appM i f) := fun dk H0 F0 F σ H env st fl st' g e E hd => by
  unfold appM at e
  split at e
  · rename_i ds he
    split at e
    · rename_i hz
      obtain ⟨⟨d, s1⟩, e1, e⟩ := mpd e
      cases e
      obtain ⟨p, vs, h1, h2, h3, h4, h5, h6, h7⟩ := g.sl i _ he
      refine ⟨.ref p, join_eq h1, .inl ⟨rfl, vs, SqL.of h2⟩, ?_⟩
      refine h dk H0 F0 F σ H env st d s1 g e1 _ fun v F1 H1 x1 g1 r1 => ?_
      refine ⟨p, vs, v, rfl, rfl, x1.h _ _ h2 h5 h6 (.inl h3.2), by rw [h7.length]; exact hz, ?_⟩
      exact hd F1 σ _ x1.f (g1.mut (ds' := (.lst, _)) he (join_eq h1) upd_same ((h7.mono x1.f).append (Rps.one r1)))
    · cases e
  · cases e
def lstOf : D → Option (List D)
  | .lst ds => some ds
  | _ => none
theorem lstOf_eq {d : D} {ds : List D} (h : lstOf d = some ds) : d = .lst ds := by
  cases d <;> first | (cases h; rfl) | cases h
def extM (i : Nat) (f : ME) : MS := fun env st => match env[i]? with
  | some (.own (.lst, ds)) => (f env st).bind fun p => (lstOf (dr p.2 p.1)).bind fun es => if ds.length + es.length ≤ sizeLine then some (.nx (env.set i (.own (.lst, ds ++ es))), p.2) else none
  | _ => none
theorem is_ext {te : TE} {f : ME} (i : Nat) (h : ImW K te f) : ImS K (tDrop (tBM K "list" rExtend (tVar i) (tCons te tNil))) (extM i f) := fun dk H0 F0 F σ H env st fl st' g e E hd => by
  unfold extM at e
  split at e
  · rename_i ds he
    obtain ⟨⟨d, s1⟩, e1, e⟩ := bnd e
    obtain ⟨es, e2, e⟩ := bnd e
    split at e
    · rename_i hz
      cases e
      obtain ⟨p, vs, h1, h2, h3, h4, h5, h6, h7⟩ := g.sl i _ he
      refine ⟨.ref p, join_eq h1, .inl ⟨rfl, vs, SqL.of h2⟩, ?_⟩
      refine h dk H0 F0 F σ H env st _ s1 g e1 _ fun v F1 H1 x1 g1 r1 => ?_
      have r2 := r1.dr g1.wd
      rw [lstOf_eq e2] at r2
      obtain ⟨q, us, rfl, k1, k2⟩ := r2.l g1.wd.sub
      refine ⟨p, q, vs, us, rfl, rfl, x1.h _ _ h2 h5 h6 (.inl h3.2), k1, by rw [h7.length, k2.length]; exact hz, ?_⟩
      exact hd F1 σ _ x1.f (g1.mut (ds' := (.lst, _)) he (join_eq h1) upd_same ((h7.mono x1.f).append k2))
    · cases e
  · cases e
end
end MD

set_option Elab.async false
set_option linter.all false
set_option maxRecDepth 100000
set_option maxHeartbeats 1000000
namespace MD
open PySem L2
variable {ww : WW}

abbrev MI := Sg → S → Option (List D × S)
/-- the walk goes through these data, whatever is laid meanwhile -/
def Stdy [WW] (K : Fg) (dk : Dk) (F : Fz) (J : It) (ds : List D) : Prop := ∀ (F1 : Fz) (H1 : Hp) (st : S), Le F F1 → Wd K dk F1 H1 st → ∀ i : Nat,
  (∀ d, ds[i]? = some d → J.go i H1 ∧ ∀ x H2, J.yld i H1 x H2 → ∃ F2, Px F1 H1 F2 H2 ∧ Rp K dk F2 x d) ∧ (ds.length ≤ i → J.stop i H1)
def ImI [WW] (K : Fg) (wi : TI) (f : MI) : Prop := ∀ (dk : Dk) (H0 : Hp) (F0 F : Fz) (σ : L2.St) (H : Hp) (env : Sg) (st : S) (ds : List D) (st' : S), Good K dk H0 F0 F σ H env st → f env st = some (ds, st') →
  ∀ R : It → Hp → Prop, (∀ J F' H', Ext dk F H F' H' → Good K dk H0 F0 F' σ H' env st' → Stdy K dk F' J ds → R J H') → wi σ H R

section
variable {K : Fg} {dk : Dk} {F F' F0 : Fz} {H H' H0 : Hp} {σ : L2.St} {env : Sg} {st : S}
theorem Stdy.mono {J : It} {ds : List D} (le : Le F F') (h : Stdy K dk F J ds) : Stdy K dk F' J ds := fun F1 H1 st l w => h F1 H1 st (le.trans l) w
theorem getD_none {α : Type} {l : List α} {i : Nat} (h : l.length ≤ i) : l[i]? = none := List.getElem?_eq_none h

/-! ### for -/
def forL (t : MG) (b : MS) : List D → MS
  | [], env, st => some (.nx env, st)
  | d :: ds, env, st => (t d env).bind fun env1 => (b env1 st).bind fun p => match p.1 with
    | .nx e => forL t b ds e p.2
    | .ct e => forL t b ds e p.2
    | .bk e => some (.nx e, p.2)
    | .rt r => some (.rt r, p.2)
def forM (it : MI) (t : MG) (b : MS) : MS := fun env st => (it env st).bind fun p => forL t b p.1 env p.2
theorem is_for {wi : TI} {g : TG} {tb : TS} {it : MI} {t : MG} {b : MS} {is : List Nat} (hi : ImI K wi it) (hg : ImG K g t is) (hb : ImS K tb b) : ImS K (tFor wi g tb) (forM it t b) := fun dk H0 F0 F σ H env st fl st' gd e E hd => by
  obtain ⟨⟨ds, s1⟩, e1, e⟩ := bnd e
  refine hi dk H0 F0 F σ H env st ds s1 gd e1 _ fun J F1 H1 x1 g1 sd => ?_
  have hd1 := hd.mono x1.f
  let P : Nat → L2.St → Hp → Prop := fun i σ H => ∃ F2 env st, Le F1 F2 ∧ Good K dk H0 F0 F2 σ H env st ∧ forL t b (ds.drop i) env st = some (fl, st')
  refine ⟨fun i m σ H => m = ds.length - i ∧ i ≤ ds.length ∧ P i σ H, ⟨_, rfl, Nat.zero_le _, F1, env, s1, Le.refl F1, g1, e⟩, ?_⟩
  rintro i m σ2 H2 ⟨rfl, hle, F2, env2, s2, le2, g2, e2⟩
  by_cases hlt : i < ds.length
  · have hdi : ds[i]? = some ds[i] := List.getElem?_eq_getElem hlt
    obtain ⟨hgo, hy⟩ := (sd F2 H2 s2 le2 g2.wd i).1 _ hdi
    refine .inr ⟨hgo, P (i + 1), fun σ' H' hp => ⟨_, by omega, rfl, hlt, hp⟩, fun x H3 hx => ?_⟩
    obtain ⟨F3, px, rx⟩ := hy x H3 hx
    have g3 := g2.px px
    rw [List.drop_eq_getElem_cons hlt] at e2
    obtain ⟨env3, e3, e2⟩ := bnd e2
    obtain ⟨⟨fl3, s3⟩, e4, e2⟩ := bnd e2
    refine hg dk H0 F0 F3 σ2 H3 env2 s2 x _ env3 g3 rx e3 _ fun σ4 g4 _ => ?_
    refine hb dk H0 F0 F3 σ4 H3 env3 s2 fl3 s3 g4 e4 _ ?_
    cases fl3 with
    | nx e5 => exact fun F5 σ5 H5 l5 g5 => ⟨F5, e5, s3, (le2.trans px.f).trans l5, g5, e2⟩
    | ct e5 => exact fun F5 σ5 H5 l5 g5 => ⟨F5, e5, s3, (le2.trans px.f).trans l5, g5, e2⟩
    | bk e5 =>
      cases e2
      exact fun F5 σ5 H5 l5 g5 => hd1 F5 σ5 H5 ((le2.trans px.f).trans l5) g5
    | rt r =>
      cases e2
      exact hd1
  · have ei : i = ds.length := by omega
    subst ei
    rw [List.drop_length] at e2
    cases e2
    exact .inl ⟨(sd F2 H2 _ le2 g2.wd ds.length).2 (Nat.le_refl _), hd1 F2 σ2 H2 le2 g2⟩

/-! ### while -/
def whF (c : MT) (b : MS) : Nat → MS
  | 0, _, _ => none
  | n + 1, env, st => (c env st).bind fun q => if q.1 then (b env q.2).bind fun p => match p.1 with
      | .nx e => whF c b n e p.2
      | .ct e => whF c b n e p.2
      | .bk e => some (.nx e, p.2)
      | .rt r => some (.rt r, p.2)
    else some (.nx env, q.2)
theorem whF_mono {c : MT} {b : MS} {r : Fl × S} : ∀ (n : Nat) {env : Sg} {st : S}, whF c b n env st = some r → whF c b (n + 1) env st = some r
  | 0, _, _, h => by cases h
  | n + 1, env, st, h => by
    obtain ⟨⟨k, s1⟩, e1, h⟩ := bnd h
    show ((c env st).bind _) = _
    rw [e1]
    cases k with
    | false => exact h
    | true =>
      replace h : ((b env s1).bind fun p => match p.1 with
        | .nx e => whF c b n e p.2
        | .ct e => whF c b n e p.2
        | .bk e => some (.nx e, p.2)
        | .rt r => some (.rt r, p.2)) = some r := h
      obtain ⟨⟨fl, s2⟩, e2, h⟩ := bnd h
      show ((b env s1).bind _) = _
      rw [e2]
      cases fl with
      | nx e => exact whF_mono n h
      | ct e => exact whF_mono n h
      | bk e => exact h
      | rt e => exact h
theorem whF_le {c : MT} {b : MS} {r : Fl × S} {env : Sg} {st : S} {n m : Nat} (h : n ≤ m) (e : whF c b n env st = some r) : whF c b m env st = some r := by
  induction h with
  | refl => exact e
  | step _ ih => exact whF_mono _ ih
open Classical in
noncomputable def whM (c : MT) (b : MS) : MS := fun env st => if h : ∃ n r, whF c b n env st = some r then whF c b h.choose env st else none
theorem whM_of {c : MT} {b : MS} {r : Fl × S} {env : Sg} {st : S} {n : Nat} (e : whF c b n env st = some r) : whM c b env st = some r := by
  unfold whM
  have h : ∃ n r, whF c b n env st = some r := ⟨n, r, e⟩
  rw [dif_pos h]
  obtain ⟨r', hr⟩ := h.choose_spec
  rw [hr]
  rcases Nat.le_total n h.choose with l | l
  · rw [whF_le l e] at hr; exact hr.symm
  · rw [whF_le l hr] at e; exact e
theorem of_whM {c : MT} {b : MS} {r : Fl × S} {env : Sg} {st : S} (e : whM c b env st = some r) : ∃ n, whF c b n env st = some r := by
  unfold whM at e
  split at e
  · exact ⟨_, e⟩
  · cases e
theorem is_while {c : TT} {tb : TS} {fc : MT} {b : MS} (hc : ImT K c fc) (hb : ImS K tb b) : ImS K (tWhile c tb) (whM fc b) := fun dk H0 F0 F σ H env st fl st' gd e E hd => by
  obtain ⟨n, e⟩ := of_whM e
  refine ⟨fun m σ H => ∃ F2 env st, Le F F2 ∧ Good K dk H0 F0 F2 σ H env st ∧ whF fc b m env st = some (fl, st'), ⟨n, F, env, st, Le.refl F, gd, e⟩, ?_⟩
  rintro m σ2 H2 ⟨F2, env2, s2, le2, g2, e2⟩
  cases m with
  | zero => cases e2
  | succ m =>
    obtain ⟨⟨k, s3⟩, e3, e2⟩ := bnd e2
    refine hc dk H0 F0 F2 σ2 H2 env2 s2 k s3 g2 e3 _ fun F3 H3 x3 g3 => ?_
    have le3 := le2.trans x3.f
    cases k with
    | false => cases e2; exact hd F3 σ2 H3 le3 g3
    | true =>
      replace e2 : ((b env2 s3).bind fun p => match p.1 with
        | .nx e => whF fc b m e p.2
        | .ct e => whF fc b m e p.2
        | .bk e => some (.nx e, p.2)
        | .rt r => some (.rt r, p.2)) = some (fl, st') := e2
      obtain ⟨⟨fl4, s4⟩, e4, e2⟩ := bnd e2
      refine ⟨fun σ H => ∃ F2 env st, Le F F2 ∧ Good K dk H0 F0 F2 σ H env st ∧ whF fc b m env st = some (fl, st'), fun σ' H' h => ⟨m, Nat.lt_succ_self m, h⟩, ?_⟩
      refine hb dk H0 F0 F3 σ2 H3 env2 s3 fl4 s4 g3 e4 _ ?_
      cases fl4 with
      | nx e5 => exact fun F5 σ5 H5 l5 g5 => ⟨F5, e5, s4, le3.trans l5, g5, e2⟩
      | ct e5 => exact fun F5 σ5 H5 l5 g5 => ⟨F5, e5, s4, le3.trans l5, g5, e2⟩
      | bk e5 =>
        cases e2
        exact fun F5 σ5 H5 l5 g5 => hd F5 σ5 H5 (le3.trans l5) g5
      | rt r =>
        cases e2
        exact hd

/-! ### comprehensions -/
def wipeE (env : Sg) : List Nat → Sg
  | [] => env
  | v :: vs => (wipeE env vs).set v .un
theorem wipeE_length (env : Sg) : ∀ vs : List Nat, (wipeE env vs).length = env.length
  | [] => rfl
  | v :: vs => by unfold wipeE; rw [List.length_set, wipeE_length env vs]
theorem wipeE_get {env : Sg} {i : Nat} {s : Sl} : ∀ {vs : List Nat}, (wipeE env vs)[i]? = some s → s = .un ∨ (env[i]? = some s ∧ i ∉ vs)
  | [], h => .inr ⟨h, by simp⟩
  | v :: vs, h => by
    unfold wipeE at h
    by_cases hi : v = i
    · subst hi
      by_cases hv : v < (wipeE env vs).length
      · rw [List.getElem?_set_self hv] at h; cases h; exact .inl rfl
      · rw [List.getElem?_eq_none (by rw [List.length_set]; omega)] at h; cases h
    · rw [List.getElem?_set_ne hi] at h
      rcases wipeE_get h with z | ⟨z1, z2⟩
      · exact .inl z
      · exact .inr ⟨z1, by simp only [List.mem_cons, not_or]; exact ⟨fun e => hi e.symm, z2⟩⟩
theorem wipe_off {σ : L2.St} {i : Nat} : ∀ {vs : List Nat}, i ∉ vs → (wipe σ vs)[i]? = σ[i]?
  | [], _ => rfl
  | v :: vs, h => by
    unfold wipe
    have hi : v ≠ i := fun e => h (by simp [e])
    rw [List.getElem?_set_ne hi]
    exact wipe_off fun z => h (List.mem_cons_of_mem _ z)
theorem wipe_in {σ : L2.St} {i : Nat} : ∀ {vs : List Nat}, i ∈ vs → (wipe σ vs)[i]? = if i < σ.length then some none else none
  | [], h => by cases h
  | v :: vs, h => by
    unfold wipe
    by_cases hi : v = i
    · subst hi
      by_cases hv : v < σ.length
      · rw [List.getElem?_set_self (by rw [wipe_length]; exact hv), if_pos hv]
      · rw [List.getElem?_eq_none (by rw [List.length_set, wipe_length]; omega), if_neg hv]
    · rw [List.getElem?_set_ne hi]
      rcases List.mem_cons.mp h with e | e
      · exact absurd e.symm hi
      · exact wipe_in e
theorem wipe_eq {σ σ' : L2.St} {vs : List Nat} (hl : σ'.length = σ.length) (h : ∀ i : Nat, i ∉ vs → σ'[i]? = σ[i]?) : wipe σ' vs = wipe σ vs := by
  apply List.ext_getElem?
  intro i
  by_cases hi : i ∈ vs
  · rw [wipe_in hi, wipe_in hi, hl]
  · rw [wipe_off hi, wipe_off hi]; exact h i hi
theorem wipe_wipe {σ : L2.St} {vs : List Nat} : wipe (wipe σ vs) vs = wipe σ vs := wipe_eq (wipe_length σ vs) fun i hi => wipe_off hi
theorem Good.wiped {vs : List Nat} (g : Good K dk H0 F0 F σ H env st) : Good K dk H0 F0 F (wipe σ vs) H (wipeE env vs) st :=
  g.reslot (by rw [wipe_length, wipeE_length]; exact g.len) fun i s e => by
    rcases wipeE_get e with z | ⟨z1, z2⟩
    · exact .inl z
    · exact .inr ⟨z1, wipe_off z2⟩
def compL (t : MG) (c : MT) (f : ME) (env : Sg) : List D → S → Option (List D × S)
  | [], st => some ([], st)
  | d :: ds, st => (t d env).bind fun e => (c e st).bind fun p => if p.1 then (f e p.2).bind fun q => (compL t c f env ds q.2).map fun r => (q.1 :: r.1, r.2) else compL t c f env ds p.2
def compM (it : MI) (t : MG) (c : MT) (f : ME) (vs : List Nat) : MA := fun env st => (it env st).bind fun p => if p.1.length ≤ sizeLine then compL t c f (wipeE env vs) p.1 p.2 else none
def yesM : MT := fun _ st => some (true, st)
theorem it_yes : ImT K tYes yesM := fun dk H0 F0 F σ H env st b st' g e Q q => by
  cases e
  exact q F H (Ext.refl F H) g
theorem if_comp {wi : TI} {g : TG} {tt : TT} {te : TE} {vs : List Nat} {it : MI} {t : MG} {c : MT} {f : ME} {is : List Nat} (hi : ImI K wi it) (hg : ImG K g t is) (ht : ImT K tt c) (he : Im K te f) (hv : ∀ i ∈ is, i ∈ vs) :
    ImF K (tLc wi g tt te vs) (compM it t c f vs) := fun dk H0 F0 F σ H env st out st' gd e Q q => by
  obtain ⟨⟨ds, s1⟩, e1, e⟩ := bnd e
  replace e : (if ds.length ≤ sizeLine then compL t c f (wipeE env vs) ds s1 else none) = some (out, st') := e
  split at e
  · rename_i hz
    refine hi dk H0 F0 F σ H env st ds s1 gd e1 _ fun J F1 H1 x1 g1 sd Dn hD => ?_
    have hDH : H Dn = none := by
      cases w : H Dn with
      | none => rfl
      | some o => exact absurd hD (x1.m Dn (by rw [w]; exact fun z => nomatch z))
    have nd := g1.nedk hD
    have h0D := g1.fresh0 hD
    have noD := g1.noown hD
    have noW : ∀ (j : Nat) (es : Own), (wipeE env vs)[j]? = some (.own es) → (wipe σ vs)[j]? ≠ some (some (.ref Dn)) := fun j es e => by
      rcases wipeE_get e with z | ⟨z1, z2⟩
      · cases z
      · rw [wipe_off z2]; exact noD j es z1
    let P : Nat → Hp → Prop := fun i H => ∃ F2 st2 acc done rest, Le F1 F2 ∧ Ext dk F1 H1 F2 H ∧ Good K dk H0 F0 F2 (wipe σ vs) H (wipeE env vs) st2 ∧ H Dn = some (.lst acc) ∧ F2.out Dn ∧ acc.length ≤ i ∧ Rps K dk F2 acc done ∧
      compL t c f (wipeE env vs) (ds.drop i) st2 = some (rest, st') ∧ done ++ rest = out
    have px0 : Px F1 H1 F1 (upd H1 Dn (.lst [])) := Px.lay g1.wd.sub hD
    refine ⟨fun i m H => m = ds.length - i ∧ i ≤ ds.length ∧ P i H, ⟨_, rfl, Nat.zero_le _, F1, s1, [], [], out, Le.refl F1, px0.ext, (g1.wiped).px px0, upd_same, g1.wd.out hD, Nat.zero_le _, .nil, e, rfl⟩, ?_⟩
    rintro i m H2 ⟨rfl, hle, F2, s2, acc, done, rest, le2, x2, g2, hacc, f2, hal, racc, e2, eo⟩
    by_cases hlt : i < ds.length
    · have hdi : ds[i]? = some ds[i] := List.getElem?_eq_getElem hlt
      obtain ⟨hgo, hy⟩ := (sd F2 H2 s2 le2 g2.wd i).1 _ hdi
      refine .inr ⟨hgo, P (i + 1), fun H' hp => ⟨_, by omega, rfl, hlt, hp⟩, fun x H3 hx => ?_⟩
      obtain ⟨F3, px, rx⟩ := hy x H3 hx
      have g3 := g2.px px
      rw [List.drop_eq_getElem_cons hlt] at e2
      obtain ⟨env3, e3, e2⟩ := bnd e2
      obtain ⟨⟨b, s4⟩, e4, e2⟩ := bnd e2
      refine hg dk H0 F0 F3 (wipe σ vs) H3 (wipeE env vs) s2 x _ env3 g3 rx e3 _ fun σ4 g4 tg => ?_
      have same : ∀ j : Nat, j ∉ vs → σ4[j]? = (wipe σ vs)[j]? ∧ env3[j]? = (wipeE env vs)[j]? := fun j hj => tg.same j fun z => hj (hv j z)
      have weq : wipe σ4 vs = wipe σ vs := by
        rw [wipe_eq tg.len fun j hj => (same j hj).1, wipe_wipe]
      have nD3 : H2 Dn ≠ none := by rw [hacc]; exact fun z => nomatch z
      have back : ∀ {F5 : Fz} {H5 : Hp} {st5 : S}, Good K dk H0 F0 F5 σ4 H5 env3 st5 → Good K dk H0 F0 F5 (wipe σ vs) H5 (wipeE env vs) st5 := fun {F5 H5 st5} g5 =>
        g5.reslot (by rw [wipe_length, wipeE_length]; exact gd.len) fun j s es => by
          rcases wipeE_get es with z | ⟨z1, z2⟩
          · exact .inl z
          · exact .inr ⟨(same j z2).2.trans es, (same j z2).1.symm⟩
      refine ⟨weq, ?_⟩
      refine ht dk H0 F0 F3 σ4 H3 env3 s2 b s4 g4 e4 _ fun F5 H5 x5 g5 => ?_
      have x25 : Ext dk F2 H2 F5 H5 := px.ext.trans x5
      have a5 : H5 Dn = some (.lst acc) := x25.h _ _ hacc nd.1 nd.2 (.inl f2.2)
      have f5 : F5.out Dn := x25.out f2 nD3
      cases b with
      | false =>
        exact ⟨F5, s4, acc, done, rest, le2.trans x25.f, x2.trans x25, back g5, a5, f5, by omega, racc.mono x25.f, e2, eo⟩
      | true =>
        replace e2 : ((f env3 s4).bind fun q => (compL t c f (wipeE env vs) (ds.drop (i + 1)) q.2).map fun r => (q.1 :: r.1, r.2)) = some (rest, st') := e2
        obtain ⟨⟨y, s6⟩, e6, e2⟩ := bnd e2
        obtain ⟨⟨rest', s7⟩, e7, e2⟩ := mpd e2
        cases e2
        refine he dk H0 F0 F5 σ4 H5 env3 s4 y s6 g5 e6 _ fun v F6 H6 x6 g6 r6 => ?_
        have x26 := x25.trans x6
        have a6 : H6 Dn = some (.lst acc) := x26.h _ _ hacc nd.1 nd.2 (.inl f2.2)
        have f6 : F6.out Dn := x26.out f2 nD3
        refine ⟨acc, a6, by omega, F6, s6, acc ++ [v], done ++ [y], rest', le2.trans x26.f, ?_, (back g6).mutT a6 f6 h0D nd.1 nd.2 noW, upd_same, f6, by simp; omega, (racc.mono x26.f).append (Rps.one r6), e7, by rw [← eo]; simp⟩
        exact (x2.trans x26).upd hD
    · have ei : i = ds.length := by omega
      subst ei
      rw [List.drop_length] at e2
      cases e2
      refine .inl ⟨(sd F2 H2 _ le2 g2.wd ds.length).2 (Nat.le_refl _), ?_⟩
      rw [List.append_nil] at eo
      subst eo
      have g9 : Good K dk H0 F0 F2 σ H2 env st' := by
        have gx := g1.step x2 g2.wd
        exact gx
      exact q Dn acc F2 H2 (x1.trans x2) g9 hDH f2 hacc racc
  · cases e
end
end MD

set_option Elab.async false
set_option linter.all false
set_option maxRecDepth 100000
set_option maxHeartbeats 2000000
namespace MD
open PySem L2
variable {ww : WW}

section
variable {K : Fg} {dk : Dk} {F F' F0 : Fz} {H H' H0 : Hp} {σ : L2.St} {env : Sg} {st : S}
/-! ### what a for or a comprehension walks -/
def rngD (lo : Int) (n : Nat) : List D := (List.range n).map fun k => .int (lo + (k : Nat))
theorem rngD_get {lo : Int} {n i : Nat} {d : D} (h : (rngD lo n)[i]? = some d) : i < n ∧ d = .int (lo + (i : Nat)) := by
  unfold rngD at h
  rw [List.getElem?_map] at h
  obtain ⟨k, h1, h2⟩ := mpd h
  have hi : i < n := by
    by_cases hl : i < n
    · exact hl
    · rw [List.getElem?_eq_none (by rw [List.length_range]; omega)] at h1; cases h1
  rw [List.getElem?_range hi] at h1
  cases h1
  exact ⟨hi, h2.symm⟩
theorem stdy_rng (lo : Int) (n : Nat) : Stdy K dk F (Itr lo n) (rngD lo n) := fun F1 H1 st le w i => by
  refine ⟨fun d hd => ?_, fun hl => ?_⟩
  · obtain ⟨h1, rfl⟩ := rngD_get hd
    refine ⟨h1, fun x H2 hy => ?_⟩
    obtain ⟨e1, e2⟩ := hy
    subst e1 e2
    exact ⟨F1, Px.refl w.sub, .int _⟩
  · show n ≤ i
    unfold rngD at hl
    simpa using hl
def r1M (a : MA) : MI := fun env st => (a env st).bind fun p => match p.1 with
  | [.int j] => if -(2 ^ 62) ≤ j ∧ j < 2 ^ 62 then some (rngD 0 j.toNat, p.2) else none
  | _ => none
theorem ii_range1 {ta : TA} {a : MA} (h : ImAW K ta a) : ImI K (iRng1 ta) (r1M a) := fun dk H0 F0 F σ H env st ds st' g e R q => by
  obtain ⟨⟨xs, s1⟩, h1, e⟩ := bnd e
  refine h dk H0 F0 F σ H env st xs s1 g h1 _ fun vs F1 H1 x1 g1 r1 => ?_
  dsimp only at e
  split at e
  · split at e
    · rename_i j hj
      cases e
      obtain ⟨v, rfl, r⟩ := r1.ws.one
      cases r.int
      exact ⟨j, rfl, hj.1, hj.2, q _ F1 H1 x1 g1 (stdy_rng 0 j.toNat)⟩
    · cases e
  · cases e
def r2M (a : MA) : MI := fun env st => (a env st).bind fun p => match p.1 with
  | [.int i, .int j] => if -(2 ^ 62) ≤ i ∧ i < 2 ^ 62 ∧ -(2 ^ 62) ≤ j ∧ j < 2 ^ 62 then some (rngD i (j - i).toNat, p.2) else none
  | _ => none
theorem ii_range2 {ta : TA} {a : MA} (h : ImAW K ta a) : ImI K (iRng2 ta) (r2M a) := fun dk H0 F0 F σ H env st ds st' g e R q => by
  obtain ⟨⟨xs, s1⟩, h1, e⟩ := bnd e
  refine h dk H0 F0 F σ H env st xs s1 g h1 _ fun vs F1 H1 x1 g1 r1 => ?_
  dsimp only at e
  split at e
  · split at e
    · rename_i i j hj
      cases e
      obtain ⟨v, u, rfl, r, r'⟩ := r1.ws.two
      cases r.int
      cases r'.int
      exact ⟨i, j, rfl, hj, q _ F1 H1 x1 g1 (stdy_rng i (j - i).toNat)⟩
    · cases e
  · cases e

/-! a list, a tuple or a text -/
theorem stdy_list {a : Addr} {vs : List V} {ds : List D} (h : F a = some (.lst vs)) (r : Rps K dk F vs ds) : Stdy K dk F (Itl K a) ds := fun F1 H1 st le w i => by
  have hq : SqL K H1 a vs := SqL.of (w.sub.lst (le.h _ _ h))
  refine ⟨fun d hd => ?_, fun hl => ⟨vs, hq, by rw [r.length]; exact hl⟩⟩
  obtain ⟨v, h1, h2⟩ := r.get hd
  refine ⟨⟨vs, v, hq, h1⟩, fun x H2 hy => ?_⟩
  obtain ⟨e1, e2⟩ := hy
  subst e1
  have ev := e2 vs hq
  rw [h1] at ev
  cases ev
  exact ⟨F1, Px.refl w.sub, h2.mono le⟩
theorem stdy_tup {a : Addr} {vs : List V} {ds : List D} (h : SqT K F a vs) (r : Rps K dk F vs ds) : Stdy K dk F (Itt K a) ds := fun F1 H1 st le w i => by
  have hq : SqT K H1 a vs := w.sub.sqT (le.sqT h)
  refine ⟨fun d hd => ?_, fun hl => ⟨vs, hq, by rw [r.length]; exact hl⟩⟩
  obtain ⟨v, h1, h2⟩ := r.get hd
  refine ⟨⟨vs, v, hq, h1⟩, fun x H2 hy => ?_⟩
  obtain ⟨e1, e2⟩ := hy
  subst e1
  have ev := e2 vs hq
  rw [h1] at ev
  cases ev
  exact ⟨F1, Px.refl w.sub, h2.mono le⟩
theorem signs_get {x : Str} {i : Nat} {d : D} (h : ((signs x).map D.str)[i]? = some d) : ∃ c, x.cps[i]? = some c ∧ d = .str ⟨#[c]⟩ := by
  unfold signs at h
  rw [List.map_map, List.getElem?_map] at h
  obtain ⟨c, h1, h2⟩ := mpd h
  exact ⟨c, by simpa using h1, h2.symm⟩
theorem signs_len (x : Str) : ((signs x).map D.str).length = x.cps.size := by
  unfold signs
  simp
theorem stdy_str (x : Str) : Stdy K dk F (Its x) ((signs x).map D.str) := fun F1 H1 st le w i => by
  refine ⟨fun d hd => ?_, fun hl => by rw [signs_len] at hl; exact hl⟩
  obtain ⟨c, h1, rfl⟩ := signs_get hd
  refine ⟨?_, fun y H2 hy => ?_⟩
  · show i < x.cps.size
    by_cases hl : i < x.cps.size
    · exact hl
    · rw [Array.getElem?_eq_none (by omega)] at h1; cases h1
  · obtain ⟨e1, c', h2, e2⟩ := hy
    subst e1 e2
    rw [h1] at h2
    cases h2
    exact ⟨F1, Px.refl w.sub, .str _⟩
def iSeq (K : Fg) (te : TE) : TI := fun σ H R => te σ H fun x H1 =>
  (∃ a, x = .ref a ∧ (∃ xs, SqL K H1 a xs) ∧ R (Itl K a) H1) ∨ (∃ a, x = .ref a ∧ (∃ xs, SqT K H1 a xs) ∧ R (Itt K a) H1) ∨ ∃ y, x = .str y ∧ R (Its y) H1
theorem pi_seq {X : Cx} {tg e : Expr} {te : TE} (he : PE X e te) : PI X tg e (iSeq X.K te) := by
  constructor
  intro pins s σ H R I h
  refine thn (he.run pins s σ H _ I h) fun v s1 h1 => ?_
  obtain ⟨x, H1, I1, r1, q1⟩ := h1
  rcases q1 with ⟨a, rfl, ⟨xs, hq⟩, q⟩ | ⟨a, rfl, ⟨xs, hq⟩, q⟩ | ⟨y, rfl, q⟩
  · cases r1
    obtain ⟨its, _, pl, _⟩ := I1.list hq
    exact wpAny_pyIter_list pl.isList (pi_one (tk := s1.toks) I1 _ (turn_list a _) ⟨_, Heap.get?_push_size _ rfl, rfl, rfl⟩ q)
  · cases r1
    obtain ⟨its, _, pl, _⟩ := I1.tuple hq
    exact wpAny_pyIter_tuple (show s1.heap.IsTuple a its.toArray from pl) (pi_one (tk := s1.toks) I1 _ (turn_tuple a _) ⟨_, Heap.get?_push_size _ rfl, rfl, rfl⟩ q)
  · obtain ⟨t, rfl⟩ := r1
    cases ha : y.cps.all (· < 128)
    · exact wpAny_pyIter_wide ha (pi_one (tk := s1.toks) I1 _ (turn_str _ y t "str_iterator" (.inr rfl)) ⟨_, Heap.get?_push_size _ rfl, rfl, rfl⟩ q)
    · exact wpAny_pyIter_ascii ha (pi_one (tk := s1.toks) I1 _ (turn_str _ y t "str_ascii_iterator" (.inl rfl)) ⟨_, Heap.get?_push_size _ rfl, rfl, rfl⟩ q)
def seqOf : D → Option (List D)
  | .lst ds => some ds
  | .tup ds => some ds
  | .str x => some ((signs x).map D.str)
  | _ => none
def seqI (f : ME) : MI := fun env st => (f env st).bind fun p => (seqOf p.1).map fun ds => (ds, p.2)
theorem ii_seq {te : TE} {f : ME} (h : Im K te f) : ImI K (iSeq K te) (seqI f) := fun dk H0 F0 F σ H env st ds st' g e R q => by
  obtain ⟨⟨d, s1⟩, h1, e⟩ := bnd e
  obtain ⟨es, h2, e⟩ := mpd e
  cases e
  refine h dk H0 F0 F σ H env st d s1 g h1 _ fun v F1 H1 x1 g1 r1 => ?_
  replace h2 : seqOf d = some ds := h2
  cases d with
  | lst xs =>
    cases h2
    cases r1 with
    | lst a1 a2 => exact .inl ⟨_, rfl, ⟨_, SqL.of (g1.wd.sub.lst a1)⟩, q _ F1 H1 x1 g1 (stdy_list a1 a2)⟩
  | tup xs =>
    cases h2
    cases r1 with
    | tup a1 a2 => exact .inr (.inl ⟨_, rfl, ⟨_, g1.wd.sub.sqT a1⟩, q _ F1 H1 x1 g1 (stdy_tup a1 a2)⟩)
  | str x =>
    cases h2
    cases r1
    exact .inr (.inr ⟨_, rfl, q _ F1 H1 x1 g1 (stdy_str x)⟩)
  | _ => cases h2

/-! ### enumerate -/
def enumD (ds : List D) : List D := ds.zipIdx.map fun p => .tup [.int ((p.2 : Nat) : Int), p.1]
theorem enumD_get {ds : List D} {i : Nat} {d : D} (h : (enumD ds)[i]? = some d) : ∃ x, ds[i]? = some x ∧ d = .tup [.int ((i : Nat) : Int), x] := by
  unfold enumD at h
  rw [List.getElem?_map, List.getElem?_zipIdx] at h
  obtain ⟨p, h1, h2⟩ := mpd h
  obtain ⟨x, h3, h4⟩ := mpd h1
  subst h4
  exact ⟨x, h3, by rw [← h2]; simp⟩
theorem enumD_len (ds : List D) : (enumD ds).length = ds.length := by unfold enumD; simp
/-- items that stand fast, each in a new pair with its number -/
def ItE (C : Hp → Prop) (xs : List V) : It := ⟨fun i H => i < xs.length ∧ C H, fun i H v H' => ∃ T x, v = .ref T ∧ H T = none ∧ H' = upd H T (.tup [.int ((i : Nat) : Int), x]) ∧ xs[i]? = some x, fun i H => xs.length ≤ i ∧ C H⟩
theorem pair_new {T : Addr} {i : Int} {x : V} {d : D} {F1 : Fz} {H1 : Hp} {st : S} (w : Wd K dk F1 H1 st) (hT : H1 T = none) (r : Rp K dk F1 x d) :
    ∃ F2, Px F1 H1 F2 (upd H1 T (.tup [.int i, x])) ∧ Rp K dk F2 (.ref T) (.tup [.int i, d]) := by
  have px : Px F1 H1 (Fz.up F1 T (.tup [.int i, x])) (upd H1 T (.tup [.int i, x])) := Px.new w.sub hT
  exact ⟨_, px, .tup (SqT.of Fz.up_same) (.cons (.int i) (.cons (r.mono px.f) .nil))⟩
theorem stdy_enumE {C : Hp → Prop} {vs : List V} {ds : List D} (hC : ∀ H1, Sb F H1 → C H1) (r : Rps K dk F vs ds) : Stdy K dk F (ItE C vs) (enumD ds) := fun F1 H1 st le w i => by
  have hc : C H1 := hC H1 (le.sb w.sub)
  refine ⟨fun d hd => ?_, fun hl => ⟨by rw [enumD_len, ← r.length] at hl; exact hl, hc⟩⟩
  obtain ⟨x, h1, rfl⟩ := enumD_get hd
  obtain ⟨v, h2, h3⟩ := r.get h1
  refine ⟨⟨?_, hc⟩, fun y H2 hy => ?_⟩
  · show i < vs.length
    by_cases hl : i < vs.length
    · exact hl
    · rw [List.getElem?_eq_none (by omega)] at h2; cases h2
  · obtain ⟨T, v', rfl, hT, rfl, e⟩ := hy
    rw [h2] at e
    cases e
    exact pair_new w hT (h3.mono le)
theorem stdy_enumL {a : Addr} {vs : List V} {ds : List D} (h : F a = some (.lst vs)) (r : Rps K dk F vs ds) : Stdy K dk F (Ite K a) (enumD ds) := fun F1 H1 st le w i => by
  have hq : SqL K H1 a vs := SqL.of (w.sub.lst (le.h _ _ h))
  refine ⟨fun d hd => ?_, fun hl => ⟨vs, hq, by rw [enumD_len, ← r.length] at hl; exact hl⟩⟩
  obtain ⟨x, h1, rfl⟩ := enumD_get hd
  obtain ⟨v, h2, h3⟩ := r.get h1
  refine ⟨⟨vs, v, hq, h2⟩, fun y H2 hy => ?_⟩
  obtain ⟨T, v', rfl, hT, rfl, e⟩ := hy
  have e' := e vs hq
  rw [h2] at e'
  cases e'
  exact pair_new w hT (h3.mono le)
/-- a turn of enumerate over what draws from it -/
theorem turnE {P : Program} {w : World} {K : Fg} {elts : List Expr} {kk : Nat} {tpos : Pos} (C : Hp → Prop) (xs : List V) (e it : Addr) (St1 : Nat → Heap → Prop)
    (fr : ∀ i h h', St1 i h → (∀ o, h.get? it = some o → h'.get? it = some o) → St1 i h')
    (ob : ∀ i h, St1 i h → ∃ o, h.get? it = some o ∧ ∀ v, o.data ≠ .cell v)
    (dr : ∀ (X : Cx), X.prog = P → X.w = w → X.K = K → X.calm = true → ∀ (i : Nat) (pins : List (Addr × Obj)) (s : Shared) (σ : L2.St) (H : Hp), Inv X pins σ H s → C H → H it = none → St1 i s.heap →
      ∃ (fp : List Addr) (St2 : Nat → Heap → Prop) (Pv : Nat → Value → Prop), Draws P w X.A.in1 it fp xs.length Pv St2 ∧ St2 i s.heap ∧ (∀ j h, St2 j h → St1 j h) ∧ (∀ b ∈ fp, b = it ∨ (∃ o, H b = some o) ∨ ∃ o, X.base.get? b = some o) ∧ ∀ j u, Pv j u → ∃ x, xs[j]? = some x ∧ RelV x u) :
    Turn P w K (.Tuple elts kk tpos) (ItE C xs) [e, it] e (fun i h => (∃ old, IsEnum h e it ((i : Nat) : Int) old) ∧ St1 i h ∧ e ≠ it ∧ i ≤ xs.length) where
  mem := List.mem_cons_self
  obj := fun i h tn b hb => by
    obtain ⟨⟨old, he⟩, hs, _⟩ := tn
    rcases List.mem_cons.mp hb with z | z
    · rw [z]; exact ⟨_, he, fun v q => nomatch q⟩
    · rw [List.mem_singleton.mp z]; exact ob i h hs
  keep := fun i h h' tn k => by
    obtain ⟨⟨old, he⟩, hs, hne, hl⟩ := tn
    exact ⟨⟨old, k e List.mem_cons_self _ he⟩, fr i h h' hs fun o q => k it (by simp) o q, hne, hl⟩
  item := by
    intro X hP hw hK hc i pins s σ H Er I hf tn hgo
    obtain ⟨hg, hC⟩ : i < xs.length ∧ C H := hgo
    obtain ⟨⟨old, he⟩, hs, hne, _⟩ := tn
    obtain ⟨fp, St2, Pv, Dw, h2, h21, hfp, hpv⟩ := dr X hP hw hK hc i pins s σ H I hC (hf it (by simp)).1 hs
    subst hP hw hK
    have hel : e < s.heap.objs.size := Heap.lt_size he
    have hil : it < s.heap.objs.size := by obtain ⟨o, q, _⟩ := ob i _ hs; exact Heap.lt_size q
    have hef : e ∉ fp := fun z => by
      rcases hfp e z with q | ⟨o, q⟩ | ⟨o, q⟩
      · exact hne q
      · rw [(hf e (by simp)).1] at q; cases q
      · have hx := (I.bs e o q).1
        obtain ⟨f0, f1, f2, f3, _⟩ := hf e (by simp)
        rcases f3 with f3 | f3
        · exact I.ok.noex e o q f3
        · exact absurd (Nat.lt_of_lt_of_le (Heap.lt_size (I.ok.bs e o q).1) f3) (Nat.lt_irrefl _)
    refine wpAny_pyNext_enum_itemD Dw he h2 hg hne hef fun u h' tk hu ho hst hT hsz hk => ?_
    obtain ⟨x, hx, ru⟩ := hpv i u hu
    refine ⟨_, rfl, wpAny_letOwnedTupleGo_enum (s := { s with heap := h', toks := tk + 1 }) ho fun h'' he' sb => ?_⟩
    have hT2 : h''.get? s.heap.objs.size = some { cls := .type "tuple", data := .seq #[.int i tk, u] } := (sb.2 _ (Nat.ne_of_gt hel)).trans hT
    have new : ObjOk X.prog X.w (upd H s.heap.objs.size (.tup [.int ((i : Nat) : Int), x])) h'' s.heap.objs.size (.tup [.int ((i : Nat) : Int), x]) := by
      refine ⟨?_, [.int i tk, u], .cons ⟨_, rfl⟩ (.cons ru .nil), ⟨_, hT2, rfl, _, rfl⟩⟩
      show 2 ≤ sizeLine
      decide
    have I1 : Inv X pins σ (upd H s.heap.objs.size (.tup [.int ((i : Nat) : Int), x])) { s with heap := h'', toks := tk + 1 } := by
      refine I.turnedNew (ch := [e, it]) (fun b o hb q => ?_) hf (Nat.le_refl _) new
      have n1 : b ≠ e := fun z => hb (by simp [z])
      have n2 : b ≠ it := fun z => hb (by simp [z])
      exact (sb.2 b n1).trans (hk b o n1 n2 q)
    refine ⟨.ref s.heap.objs.size, _, I1, rfl, ⟨_, x, rfl, I.hok.fresh (Nat.le_refl _), rfl, hx⟩, ⟨⟨u, ?_⟩, ?_, hne, hg⟩, fun b hb => ?_⟩
    · have e1 : ((i + 1 : Nat) : Int) = (i : Int) + 1 := by omega
      rw [e1]; exact he'
    · exact fr (i + 1) h' h'' (h21 _ _ hst) fun o q => (sb.2 it (Ne.symm hne)).trans q
    · have hb' : b < s.heap.objs.size := by
        rcases List.mem_cons.mp hb with z | z
        · rw [z]; exact hel
        · rw [List.mem_singleton.mp z]; exact hil
      rw [upd_ne (Nat.ne_of_lt hb')]
      exact (hf b hb).1
  done := by
    intro X hP hw hK hc i pins s σ H Er I hf tn hgo
    obtain ⟨hg, hC⟩ : xs.length ≤ i ∧ C H := hgo
    obtain ⟨⟨old, he⟩, hs, hne, hl⟩ := tn
    have ei : i = xs.length := Nat.le_antisymm hl hg
    subst ei
    obtain ⟨fp, St2, Pv, Dw, h2, h21, hfp, hpv⟩ := dr X hP hw hK hc xs.length pins s σ H I hC (hf it (by simp)).1 hs
    subst hP hw hK
    obtain ⟨f0, f1, f2, f3, f4, f5⟩ := hf it (by simp)
    exact wpAny_pyNext_enum_endD Dw he h2 fun h' eb => ⟨rfl, I.turned (t' := s.toks) (fun b o hb q => eb b o hb q) f0 f1 f3 f4 f5⟩
  self := fun A i s Q E tn h => by
    obtain ⟨⟨_, he⟩, _⟩ := tn
    exact wpAny_pyIter_enum he h
end
end MD

set_option Elab.async false
set_option linter.all false
set_option maxRecDepth 100000
set_option maxHeartbeats 2000000
namespace MD
open PySem L2
variable {ww : WW}

theorem newT (t : Addr) (items : Array Value) : Meets (Builtin.«enumerate.__new__» ⟨[.type "enumerate", .ref t], []⟩) (fun _ R s => s.heap.IsTuple t items ∧ R (.ok (.ret (.ref (s.heap.push { cls := .type "tuple_iterator", data := .fields #[.ref t, .int 0 0] }).objs.size)))
        { s with heap := (s.heap.push { cls := .type "tuple_iterator", data := .fields #[.ref t, .int 0 0] }).push { cls := .type "enumerate", data := .fields #[.none, .bool false, .ref s.heap.objs.size, rawInt 0, .none, .none] } }) :=
  .of_wp fun prog w A R s h => by
    obtain ⟨hp, g, d, tk, os⟩ := s
    obtain ⟨hL, h⟩ := h
    obtain ⟨⟨c0, dct, dt, sl⟩, hl, hc, n, hd⟩ := id hL
    have hsub := sub_enumerate
    wp_walk using AutoSeq1.wpAny_loadPart' hl
    refine wpAny_stack_any fun st => wpAny_pure ?_
    split
    · rename_i c _ _ _ _ _
      cases (c == Value.type "enumerate")
      · wp_walk using AutoSeq1.wpAny_loadPart' hl, wpAny_pyIter_tuple hL
        exact ⟨_, rfl, h⟩
      · wp_walk using AutoSeq1.wpAny_loadPart' hl, wpAny_pyIter_tuple hL
        exact ⟨_, rfl, h⟩
    · wp_walk using AutoSeq1.wpAny_loadPart' hl, wpAny_pyIter_tuple hL
      exact ⟨_, rfl, h⟩
theorem call_enumT {prog : Program} {w : World} {A : Around} {E : Value → Shared → Prop} {s : Shared} {t : Addr} {items : Array Value} {Q : Value → Shared → Prop} (hL : s.heap.IsTuple t items)
    (h : ∀ h', IsEnum h' (s.heap.objs.size + 1) s.heap.objs.size 0 .none → h'.IsTupleIter s.heap.objs.size t 0 → (∀ b o, s.heap.get? b = some o → h'.get? b = some o) → Q (.ref (s.heap.objs.size + 1)) { s with heap := h' }) :
    wpAny (model prog w) A (call (.type "enumerate") [.ref t]) Q E s := by
  refine callType_new F.called_enumerate (by decide) (F.typeCall_enumerate_1 _) (F.newCall_enumerate_1 _) (fun obj => F.args_object_init_2 obj _) F.entry_enumerate_new (newT t items) ⟨hL, ?_⟩
  have hz : (s.heap.push { cls := .type "tuple_iterator", data := .fields #[.ref t, .int 0 0] }).objs.size = s.heap.objs.size + 1 := Heap.size_push ..
  show _ ∧ _
  rw [hz]
  have he : IsEnum ((s.heap.push { cls := .type "tuple_iterator", data := .fields #[.ref t, .int 0 0] }).push { cls := .type "enumerate", data := .fields #[.none, .bool false, .ref s.heap.objs.size, rawInt 0, .none, .none] }) (s.heap.objs.size + 1) s.heap.objs.size 0 .none := by
    have q := Heap.get?_push_size (s.heap.push { cls := .type "tuple_iterator", data := .fields #[.ref t, .int 0 0] }) (o := { cls := .type "enumerate", data := .fields #[.none, .bool false, .ref s.heap.objs.size, rawInt 0, .none, .none] }) rfl
    rw [hz] at q
    exact q
  exact ⟨⟨_, he, rfl⟩, h _ he ⟨_, Heap.get?_push_of_some _ (Heap.get?_push_size _ rfl), rfl, rfl⟩ fun b o x => Heap.get?_push_of_some _ (Heap.get?_push_of_some _ x)⟩

section
variable {K : Fg} {dk : Dk} {F F' F0 : Fz} {H H' H0 : Hp} {σ : L2.St} {env : Sg} {st : S}
theorem turn_enumS {P : Program} {w : World} {elts : List Expr} {kk : Nat} {tpos : Pos} (e it : Addr) (x : Str) (t : Tok) :
    Turn P w K (.Tuple elts kk tpos) (ItE (fun _ => True) ((signs x).map V.str)) [e, it] e (fun i h => (∃ old, IsEnum h e it ((i : Nat) : Int) old) ∧ h.IsStrIter it (strIterType x) x t i ∧ e ≠ it ∧ i ≤ ((signs x).map V.str).length) := by
  refine turnE _ _ e it (fun i h => h.IsStrIter it (strIterType x) x t i) (fun i h h' st k => ?_) (fun i h st => ?_) fun X hP hw hK hc i pins s σ H I _ _ hs => ?_
  · obtain ⟨o, ho, r⟩ := st
    exact ⟨o, k o ho, r⟩
  · obtain ⟨o, ho, c, d⟩ := st
    exact ⟨o, ho, fun v z => by rw [d] at z; cases z⟩
  · have hd : X.A.in1.handled = none := I.ok.hd hc
    have hl : ((signs x).map V.str).length = x.cps.size := by unfold signs; simp
    subst hP hw
    refine ⟨[it], _, _, hl ▸ Draws.text (prog := X.prog) (w := X.w) hd it x t, hs, fun _ _ z => z, fun b hb => .inl (List.mem_singleton.mp hb), fun j u hu => ?_⟩
    obtain ⟨c, u', h1, rfl⟩ := hu
    refine ⟨.str ⟨#[c]⟩, ?_, ⟨_, rfl⟩⟩
    unfold signs
    rw [List.map_map, List.getElem?_map]
    have : x.cps.toList[j]? = some c := by simpa using h1
    rw [this]
    rfl
theorem turn_enumT {P : Program} {w : World} {elts : List Expr} {kk : Nat} {tpos : Pos} (a e it : Addr) (xs : List V) :
    Turn P w K (.Tuple elts kk tpos) (ItE (fun H => SqT K H a xs) xs) [e, it] e (fun i h => (∃ old, IsEnum h e it ((i : Nat) : Int) old) ∧ h.IsTupleIter it a i ∧ e ≠ it ∧ i ≤ xs.length) := by
  refine turnE _ _ e it (fun i h => h.IsTupleIter it a i) (fun i h h' st k => ?_) (fun i h st => ?_) fun X hP hw hK hc i pins s σ H I hq hn hs => ?_
  · obtain ⟨o, ho, r⟩ := st
    exact ⟨o, k o ho, r⟩
  · obtain ⟨o, ho, c, d⟩ := st
    exact ⟨o, ho, fun v z => by rw [d] at z; cases z⟩
  · have hd : X.A.in1.handled = none := I.ok.hd hc
    subst hP hw hK
    obtain ⟨its, rv, pt, hz⟩ := I.tuple hq
    have hl : xs.length = its.toArray.size := by rw [List.size_toArray]; exact rv.length
    have hb : (∃ o, H a = some o) ∨ ∃ o, X.base.get? a = some o := by
      rcases hq with (h | ⟨o, h⟩) | ⟨o, _, _, h, _⟩
      · exact .inl ⟨_, h⟩
      · exact .inl ⟨_, h⟩
      · exact .inr ⟨_, I.mod.kin a o h⟩
    have hai : a ≠ it := fun z => by
      obtain ⟨o, ho, c, d⟩ := hs
      obtain ⟨o2, ho2, c2, _⟩ := id pt
      rw [z, ho] at ho2
      cases ho2
      rw [c] at c2
      exact absurd c2 (by decide)
    refine ⟨[it, a], _, _, hl ▸ Draws.tuple (prog := X.prog) (w := X.w) hd it a hai its.toArray, ⟨hs, pt⟩, fun _ _ z => z.1, fun b hbm => ?_, fun j u hu => ?_⟩
    · rcases List.mem_cons.mp hbm with z | z
      · exact .inl z
      · rw [List.mem_singleton.mp z]; exact .inr hb
    · have hu' : its[j]? = some u := by simpa using hu
      have hjl : j < xs.length := by
        rw [rv.length]
        by_cases hl : j < its.length
        · exact hl
        · rw [List.getElem?_eq_none (by omega)] at hu'; cases hu'
      obtain ⟨u2, h1, h2⟩ := rv.get (List.getElem?_eq_getElem hjl)
      rw [hu'] at h1
      cases h1
      exact ⟨_, List.getElem?_eq_getElem hjl, h2⟩
def iEnumA (K : Fg) (ta : TA) : TI := fun σ H R => ta σ H fun vs H1 => (∃ a xs, vs = [.ref a] ∧ SqL K H1 a xs ∧ R (Ite K a) H1) ∨ (∃ a xs, vs = [.ref a] ∧ SqT K H1 a xs ∧ R (ItE (fun H => SqT K H a xs) xs) H1) ∨
  ∃ y, vs = [.str y] ∧ R (ItE (fun _ => True) ((signs y).map V.str)) H1
theorem pi_enumA {X : Cx} {e : Expr} {ta : TA} {p pos tpos : Pos} {elts : List Expr} {kk : Nat} (hg : Gl X "enumerate") (hm : X.mg "enumerate" = none) (ha : PA X [e] ta) (hs : starEach [e] X.env = [(false, eval e X.env)] := by rfl) :
    PI X (.Tuple elts kk tpos) (.Call (.Name "enumerate" p) [e] [] pos) (iEnumA X.K ta) := by
  constructor
  intro pins s σ H R I h
  refine PyProof.Rows.Call_ (ld_blt I hg hm PyProof.Rows.boot_enumerate (PyProof.Rows.callWith_type1 (thn (ha.run pos pins s σ H _ I h) fun us s1 q0 => ?_) hs rfl))
  obtain ⟨vs, H1, I1, r1, q1⟩ := q0
  have fpo : ∀ b ∈ [s1.heap.objs.size + 1, s1.heap.objs.size], FpOk X pins H1 b := fun b hb => by
    have hle : s1.heap.objs.size ≤ b := by
      rcases List.mem_cons.mp hb with z | z
      · rw [z]; exact Nat.le_add_right _ _
      · rw [List.mem_singleton.mp z]; exact Nat.le_refl _
    exact I1.fpOk hle (I1.hok.fresh hle)
  rcases q1 with ⟨a, xs, rfl, hq, q⟩ | ⟨a, xs, rfl, hq, q⟩ | ⟨y, rfl, q⟩
  · obtain ⟨u, rfl, ru⟩ := vals1 r1
    cases ru
    obtain ⟨its, rv, pl, hz⟩ := I1.list hq
    refine call_enumerate_list pl.isList fun h' he hit hsz hk => wpAny_pyIter_enum he ?_
    exact ⟨_, _, _, _, H1, rfl, I1.kept (t' := s1.toks) hk, turn_enum a (s1.heap.objs.size + 1) s1.heap.objs.size, ⟨⟨.none, he⟩, hit, Nat.succ_ne_self _⟩, fpo, q⟩
  · obtain ⟨u, rfl, ru⟩ := vals1 r1
    cases ru
    obtain ⟨its, rv, pl, hz⟩ := I1.tuple hq
    refine call_enumT (show s1.heap.IsTuple a its.toArray from pl) fun h' he hit hk => wpAny_pyIter_enum he ?_
    exact ⟨_, _, _, _, H1, rfl, I1.kept (t' := s1.toks) hk, turn_enumT a (s1.heap.objs.size + 1) s1.heap.objs.size xs, ⟨⟨.none, he⟩, hit, Nat.succ_ne_self _, Nat.zero_le _⟩, fpo, q⟩
  · obtain ⟨u, rfl, ru⟩ := vals1 r1
    obtain ⟨t, rfl⟩ := ru
    refine call_enumerate_str fun h' he hit hsz hk => wpAny_pyIter_enum he ?_
    exact ⟨_, _, _, _, H1, rfl, I1.kept (t' := s1.toks) hk, turn_enumS (s1.heap.objs.size + 1) s1.heap.objs.size y t, ⟨⟨.none, he⟩, hit, Nat.succ_ne_self _, Nat.zero_le _⟩, fpo, q⟩
def enumI (f : ME) : MI := fun env st => (f env st).bind fun p => (seqOf p.1).map fun ds => (enumD ds, p.2)
theorem Rps.mapStr : ∀ (xs : List Str), Rps K dk F (xs.map V.str) (xs.map D.str) := Rps.ofStrs
theorem ii_enum {te : TE} {f : ME} (h : Im K te f) : ImI K (iEnumA K (tCons te tNil)) (enumI f) := fun dk H0 F0 F σ H env st ds st' g e R q => by
  obtain ⟨⟨d, s1⟩, h1, e⟩ := bnd e
  obtain ⟨es, h2, e⟩ := mpd e
  cases e
  refine h dk H0 F0 F σ H env st d s1 g h1 _ fun v F1 H1 x1 g1 r1 => ?_
  replace h2 : seqOf d = some es := h2
  cases d with
  | lst xs =>
    cases h2
    cases r1 with
    | lst a1 a2 => exact .inl ⟨_, _, rfl, SqL.of (g1.wd.sub.lst a1), q _ F1 H1 x1 g1 (stdy_enumL a1 a2)⟩
  | tup xs =>
    cases h2
    cases r1 with
    | tup a1 a2 => exact .inr (.inl ⟨_, _, rfl, g1.wd.sub.sqT a1, q _ F1 H1 x1 g1 (stdy_enumE (fun H2 le => le.sqT a1) a2)⟩)
  | str x =>
    cases h2
    cases r1
    exact .inr (.inr ⟨_, rfl, q _ F1 H1 x1 g1 (stdy_enumE (fun _ _ => trivial) (Rps.ofStrs _))⟩)
  | _ => cases h2
end
end MD

set_option Elab.async false
set_option linter.all false
set_option maxRecDepth 100000
set_option maxHeartbeats 2000000
namespace MD
open PySem PySem.Spec PyProof.Rows L2
variable {ww : WW}

/-- a def keeps its promise wherever no repr is running -/
structure FnG (P : Program) (w : World) (K : Fg) (mg : Str → Option Value) (base : Heap) (k : Nat) (f : Addr) (fd : FuncData) (ps : List Str) (sp : Sp) : Prop where
  len : ∀ vs H Q E, sp vs H Q E → vs.length = ps.length
  run : ∀ (A : Around) (outer : List Env) (s : Shared) (H : Hp) (args : Args) (us : List Value) (vs : List V) (Q : VK) (E : XK), Room k A → A.guards = some [] → Env0 P w K mg base A outer s H → BindsTo s fd args (ps.zip us) → Vals vs us →
    sp vs H Q E → codeAny (model P w) A (.call (.ref f) args) (CR CX0 outer P w H s Q E) s

section
variable {X : Cx} {k : Nat} {f : Addr} {fd : FuncData} {ps : List Str} {sp : Sp} {x : Str} {p pos : Pos} {e : Expr} {es : List Expr} {t : TA}
theorem runG {pins : List (Addr × Obj)} {σ : L2.St} {H : Hp} {s : Shared} {Q : VK} {us : List Value} {vs : List V} (F : FnG X.prog X.w X.K X.mg X.base k f fd ps sp) (hr : Room k X.A) (gd : X.A.guards = some []) (hb : Binds X.K fd ps [])
    (I : L2.Inv X pins σ H s) (r : Vals vs us) (h : sp vs H Q E0) : wpAny (model X.prog X.w) X.A (call (.ref f) us) (EP X pins σ Q) X.xe s := by
  have hl : us.length = ps.length := r.length.symm.trans (F.len _ _ _ _ h)
  have bb := hb s us I.kIn (by rw [List.append_nil]; exact hl)
  rw [List.append_nil] at bb
  refine wpAny_call (codeAny_mono (F.run X.A X.stack s H ⟨us, []⟩ us vs Q E0 hr gd I.env0 bb r h) fun rr s' hq => ?_)
  cases rr with
  | error er => exact False.elim hq
  | ok fl =>
    cases fl with
    | ret u => exact I.after hq
    | next => exact False.elim hq
    | brk => exact False.elim hq
    | cont => exact False.elim hq
theorem pe_callG (F : FnG X.prog X.w X.K X.mg X.base k f fd ps sp) (hr : Room k X.A) (gd : X.A.guards = some []) (hg : Gl X x) (hm : X.mg x = some (.ref f)) (hk : PySem.W.keepIn X.K (.ref f) = true) (hb : Binds X.K fd ps [])
    (ha : PA X (e :: es) t) (hdb : (x == ("__debug__" : Str)) = false := by decide) (he : starEach (e :: es) X.env = (false, eval e X.env) :: starEach es X.env := by rfl) (hpl : (backTo pos (starEach es X.env)).any (·.1) = false := by rfl) :
    PE X (.Call (.Name x p) (e :: es) [] pos) (tCall sp [] E0 t) := by
  constructor
  intro pins s σ H Q I h
  refine wpAny_Call_Name_kw (ld_glob I hg hm ?_ hdb)
  refine PySem.W.callWith_K (h₀ := X.base) I.ok.mod.kin hk (thn (ha.run pos pins s σ H _ I h) fun us s1 q0 => ?_) he hpl
  obtain ⟨vs, H1, I1, r, q⟩ := q0
  rw [List.append_nil] at q
  exact ⟨I1.kIn, runG F hr gd hb I1 r q⟩
end

theorem guards_deeper {A : Around} (env : Env) (h : A.guards = some []) : (A.deeper env).guards = some [] := by
  first | exact h | (simp [Around.deeper, h]) 

/-- a def of the text by its body -/
theorem fnG_of {P : Program} {w : World} {K : Fg} {mg : Str → Option Value} {base : Heap} {x qual : Str} {st : Stmt} {f : Addr} {fd : FuncData} {N ps : List Str} {k : Nat} {sp : Sp} (Fn : Fun K x qual st f fd) (S : FnScope N ps (defScope st))
    (len : ∀ vs H Q E, sp vs H Q E → vs.length = ps.length)
    (hbody : ∀ (cdv : Value) (A : Around) (outer : List Env) (s : Shared) (H : Hp) (vs : List V) (Q : VK) (E : XK), Room k (A.deeper (envOfC qual (defScope st) s.heap.objs.size f cdv)) → (A.deeper (envOfC qual (defScope st) s.heap.objs.size f cdv)).guards = some [] → sp vs H Q E →
      ∃ t, PSs (cxOf CX0 P w K mg base N qual (defScope st) f cdv A outer s H E).nox (defBody st) t ∧ t { nx := fun _ H' => Q .non H', rt := Q } (L2.start N vs) H) : FnG P w K mg base (k + 1) f fd ps sp := by
  refine ⟨len, fun A outer s H args us vs Q E hr gd e0 hb r hsp => ?_⟩
  -- the promise, asked only where no repr is running
  let sp' : Sp := fun vs' H' Q' E' => sp vs' H' Q' E'
  obtain ⟨oc, od, kV, doc, pm, an, cdv, ct, osl, rfl, lk, hcd⟩ := Fn.ex
  have hl := len _ _ _ _ hsp
  have KX : K.In s.heap := e0.mod.kin.keeps fun b o e => (e0.bs b o e).1
  have lim : s.heap.NoLimit := e0.mod.nolimit.keeps fun b o e => (e0.bs b o e).1
  have hkind : ∀ y ∈ ps.zip us, (defScope st).names.lookup y.1 = some .local ∨ ((defScope st).names.lookup y.1 = some .cell ∧ ((cellsFrom (s.heap.objs.size + 1) (defScope st).names []).lookup y.1).isSome = true) := by
    rintro ⟨n, v⟩ hy
    rcases S.par n (List.of_mem_zip hy).1 with q | q
    · exact .inl q
    · exact .inr ⟨q, PySem.W.cellsFrom_some _ _ _ (.inl q)⟩
  refine codeAny_call_function hr.depth (KX _ _ lk) rfl S.co S.gen rfl (PySem.W.codeRec_of KX hcd) (hb _ _ _ _ ?_)
  refine wpAny_newFunctionEnv_cells S.kind hkind fun env he s1 y => ?_
  subst he
  refine ⟨lim.keeps y.toInCall.keep, codeAny_func ?_⟩
  obtain ⟨t, ht, hq⟩ := hbody cdv A outer s H vs Q E (hr.deeper _) (guards_deeper _ gd) hsp
  have I := inv_start (CX := CX0) (E := E) (qual := qual) (f := f) (cd := cdv) S hr.hd e0 hl r y
  refine wpAny_mono ((ht.nox).run [] s1 (L2.start N vs) H _ I hq) (fun fl s' hs => ?_) fun er s' hs => hs
  cases fl with
  | ret u =>
    obtain ⟨v, σ', H', J, rv, q⟩ := hs
    exact ⟨v, H', J.os, J.bare, J.base, J.hok, rv, q⟩
  | next =>
    obtain ⟨σ', H', J, q⟩ := hs
    exact ⟨V.non, H', J.os, J.bare, J.base, J.hok, rfl, q⟩
  | brk =>
    obtain ⟨_, _, _, q⟩ := hs
    exact False.elim q
  | cont =>
    obtain ⟨_, _, _, q⟩ := hs
    exact False.elim q

/-! ### promises by mirrors -/
abbrev MF := List D → S → Option (D × S)
/-- called with these data it gives what the mirror gives; n parameters -/
def spD [WW] (K : Fg) (n : Nat) (m : MF) : Sp := fun vs H Q _ => vs.length = n ∧ ∃ (dk : Dk) (F : Fz) (ds : List D) (st : S) (d : D) (st' : S), Wd K dk F H st ∧ Rps K dk F vs ds ∧ m ds st = some (d, st') ∧
  ∀ v F' H', Ext dk F H F' H' → Wd K dk F' H' st' → Rp K dk F' v d → Q v H'
def callM (m : MF) (a : MA) : ME := fun env st => (a env st).bind fun p => m p.1 p.2
section
variable {K : Fg}
theorem im_call {n : Nat} {m : MF} {ta : TA} {a : MA} {E : XK} (ha : ImA K ta a) (hn : ∀ env st p, a env st = some p → p.1.length = n) : Im K (tCall (spD K n m) [] E ta) (callM m a) := fun dk H0 F0 F σ H env st d st' g e Q q => by
  obtain ⟨⟨ds, s1⟩, h1, e⟩ := bnd e
  refine ha dk H0 F0 F σ H env st ds s1 g h1 _ fun vs F1 H1 x1 g1 r1 => ?_
  rw [List.append_nil]
  exact ⟨r1.length.trans (hn _ _ _ h1), dk, F1, ds, s1, d, st', g1.wd, r1, e, fun v F' H' x w r => q v F' H' (x1.trans x) (g1.step x w) r⟩
theorem an_nil : ∀ env st p, aNil env st = some p → p.1.length = 0 := fun env st p h => by cases h; rfl
theorem an_cons {f : ME} {r : MA} {n : Nat} (h : ∀ env st p, r env st = some p → p.1.length = n) : ∀ env st p, aCons f r env st = some p → p.1.length = n + 1 := fun env st p e => by
  obtain ⟨x, h1, e⟩ := bnd e
  obtain ⟨y, h2, e⟩ := mpd e
  cases e
  simp [h _ _ _ h2]
/-- a def's mirror, by its body's -/
def runM (N : Nat) (b : MS) : MF := fun ds st => (b (ds.map Sl.val ++ List.replicate (N - ds.length) Sl.un) st).bind fun p => match p.1 with
  | .rt d => some (d, p.2)
  | .nx _ => some (.non, p.2)
  | _ => none
theorem Rps.slots {dk : Dk} {F : Fz} : ∀ {vs : List V} {ds : List D} {i : Nat} {s : Sl}, Rps K dk F vs ds → (ds.map Sl.val)[i]? = some s → ∃ v d, vs[i]? = some v ∧ s = .val d ∧ Rp K dk F v d := fun {vs ds i s} r e => by
  rw [List.getElem?_map] at e
  obtain ⟨d, h1, h2⟩ := mpd e
  obtain ⟨v, h3, h4⟩ := r.get h1
  exact ⟨v, d, h3, h2.symm, h4⟩
theorem good_start {dk : Dk} {F : Fz} {H : Hp} {N : List Str} {vs : List V} {ds : List D} {st : S} (w : Wd K dk F H st) (r : Rps K dk F vs ds) (hl : vs.length ≤ N.length) : Good K dk H F F (L2.start N vs) H (ds.map Sl.val ++ List.replicate (N.length - ds.length) Sl.un) st := by
  have hlen := r.length
  refine ⟨w, Ext.refl F H, ?_, fun i s e => ?_, fun i j es fs p hne e1 e2 e3 => ?_⟩
  · unfold L2.start
    simp
    omega
  · by_cases hi : i < ds.length
    · rw [List.getElem?_append_left (by simpa using hi)] at e
      obtain ⟨v, d, h1, rfl, h2⟩ := r.slots e
      refine ⟨v, ?_, h2⟩
      unfold L2.start
      rw [List.getElem?_append_left (by rw [List.length_map, hlen]; exact hi), List.getElem?_map, h1]
      rfl
    · rw [List.getElem?_append_right (by simpa using hi), List.getElem?_replicate] at e
      split at e
      · cases e; trivial
      · cases e
  · exfalso
    by_cases hi : i < ds.length
    · rw [List.getElem?_append_left (by simpa using hi)] at e1
      obtain ⟨v, d, _, h, _⟩ := r.slots e1
      cases h
    · rw [List.getElem?_append_right (by simpa using hi), List.getElem?_replicate] at e1
      split at e1 <;> cases e1
/-- THE RULE: a def by its body's term t and the mirror b of t -/
theorem fnD {P : Program} {w : World} {mg : Str → Option Value} {base : Heap} {x qual : Str} {st : Stmt} {f : Addr} {fd : FuncData} {N ps : List Str} {k : Nat} {b : MS} (Fn : Fun K x qual st f fd) (S : FnScope N ps (defScope st)) (hN : ps.length ≤ N.length)
    (hbody : ∀ (cdv : Value) (A : Around) (outer : List Env) (s : Shared) (H : Hp) (E : XK), Room k (A.deeper (envOfC qual (defScope st) s.heap.objs.size f cdv)) → (A.deeper (envOfC qual (defScope st) s.heap.objs.size f cdv)).guards = some [] →
      ∃ t, PSs (cxOf CX0 P w K mg base N qual (defScope st) f cdv A outer s H E).nox (defBody st) t ∧ ImS K t b) : FnG P w K mg base (k + 1) f fd ps (spD K ps.length (runM N.length b)) := by
  refine fnG_of Fn S (fun vs H Q E h => h.1) fun cdv A outer s H vs Q E hr gd h => ?_
  obtain ⟨hlv, dk, F, ds, s0, d, s1, wd, r, e, q⟩ := h
  obtain ⟨t, h1, h2⟩ := hbody cdv A outer s H E hr gd
  refine ⟨t, h1, ?_⟩
  obtain ⟨⟨fl, s2⟩, e1, e⟩ := bnd e
  refine h2 dk H F F (L2.start N vs) H _ s0 fl s2 (good_start wd r (by rw [hlv]; exact hN)) e1 _ ?_
  cases fl with
  | rt d' => cases e; exact fun v F' H' x w r => q v F' H' x w r
  | nx en => cases e; exact fun F' σ' H' le g => q .non F' H' g.ext g.wd .non
  | bk en => cases e
  | ct en => cases e
end
end MD

set_option Elab.async false
set_option linter.all false
set_option maxRecDepth 100000
set_option maxHeartbeats 2000000
namespace MD
open PySem PySem.Spec PyProof.Rows L2
variable {ww : WW}

/-! ### the deck -/
structure DC where
  m1 : Int
  c1 : Int
  c2 : Int
  m2 : Int
def atOf (st : S) : Nat := ((st.n + 1) % (st.cells.length : Int)).toNat
def cellOf (st : S) : Int := if st.cells = [] then 0 else st.cells.getD (atOf st) 0
def drawV (c : DC) (many : Int) (st : S) : Int :=
  if cellOf st ≥ 10 ^ 18 then cellOf st % many else ((cellOf st % c.m1 + c.c1 * (st.n + 1) + c.c2) ^ 5 % c.m2) % many
def drawT (many : Int) (st : S) : S :=
  if cellOf st ≥ 10 ^ 18 then ⟨st.cells.set (atOf st) (cellOf st / many), st.n + 1, st.ob⟩ else ⟨st.cells, st.n + 1, st.ob⟩
def nMax : Int := 1000000000000
def drawM (c : DC) : MF
  | [.deck, .int many], st => if 0 < many ∧ many < 1073741824 ∧ 0 ≤ st.n ∧ st.n < nMax then some (.int (drawV c many st), drawT many st) else none
  | _, _ => none
def DC.ok (c : DC) : Prop := 0 < c.m1 ∧ c.m1 < 2 ^ 32 ∧ 0 < c.m2 ∧ c.m2 < 2 ^ 32 ∧ 0 ≤ c.c1 ∧ c.c1 < 2 ^ 16 ∧ 0 ≤ c.c2 ∧ c.c2 < 2 ^ 16

/-! readings used by the draw -/
section
variable {K : Fg}
def rInt1 : List V → Hp → VK → Prop := fun xs H Q => (∃ i, xs = [.int i] ∧ Q (.int i) H) ∨ ∃ k, xs = [.bl k] ∧ Q (.int (if k then 1 else 0)) H
def rLen1 (K : Fg) : List V → Hp → VK → Prop := fun xs H Q => ∃ x n, xs = [x] ∧ LenV K x H n ∧ Q (.int n) H
abbrev tInt (t : TE) : TE := tCB rInt1 (tCons t tNil)
abbrev tLen (K : Fg) (t : TE) : TE := tCB (rLen1 K) (tCons t tNil)
abbrev tIx (K : Fg) (a b : TE) : TE := tOp (rIx K) a b
abbrev tI (i : Int) : TE := tC (.int i)
abbrev tDk1 (K : Fg) : TE := tIx K (tVar 0) (tI 1)
abbrev tDk0 (K : Fg) : TE := tIx K (tVar 0) (tI 0)
def tDraw1 (K : Fg) : TS := tAsg (tOp (rI0 fun i j => .int (i + j)) (tDk1 K) (tI 1)) (gSub (tVar 0) (tI 1) rSetL)
def tDraw2 (K : Fg) : TS := tAsg (tTup (tCons (tI 0) (tCons (tUn (rU fun i => .int (-i)) (tI 1)) tNil))) (gTup K 2 (gCons (gName 2) (gCons (gName 3) gNil)))
def tDraw3 (K : Fg) : TS := tIfS (tTest (tOp (rI0 fun i j => .bl (decide (j < i))) (tLen K (tDk0 K)) (tI 0)))
  (tSeq (tAsg (tOp (rI (fun _ j => 0 < j) fun i j => .int (i % j)) (tInt (tDk1 K)) (tLen K (tDk0 K))) (gName 3)) (tAsg (tIx K (tDk0 K) (tVar 3)) (gName 2))) tNext
def tDraw4 (K : Fg) : TS := tIfS (tTest (tOp (rI0 fun i j => .bl (decide (j ≤ i))) (tVar 2) (tOp (rI CPow fun i j => .int (i ^ j.toNat)) (tI 10) (tI 18))))
  (tSeq (tAsg (tOp (rI CDiv fun i j => .int (i / j)) (tInt (tVar 2)) (tVar 1)) (gSub (tDk0 K) (tVar 3) rSetL)) (tRet (tOp (rI (fun _ j => 0 < j) fun i j => .int (i % j)) (tInt (tVar 2)) (tVar 1)))) tNext
def tDraw5 (K : Fg) (c : DC) : TS := tAsg (tOp (rI0 fun i j => .int (i + j)) (tOp (rI0 fun i j => .int (i + j)) (tOp (rI (fun _ j => 0 < j) fun i j => .int (i % j)) (tInt (tVar 2)) (tI c.m1))
  (tOp (rI CMul fun i j => .int (i * j)) (tI c.c1) (tDk1 K))) (tI c.c2)) (gName 4)
def tDraw6 (K : Fg) (c : DC) : TS := tRet (tOp (rI (fun _ j => 0 < j) fun i j => .int (i % j)) (tInt (tOp (rI (fun _ j => 0 < j) fun i j => .int (i % j)) (tInt (tOp (rI CPow fun i j => .int (i ^ j.toNat)) (tVar 4) (tI 5))) (tI c.m2))) (tVar 1))
def tDraw (K : Fg) (c : DC) : TS := tSeq (tDraw1 K) (tSeq (tDraw2 K) (tSeq (tDraw3 K) (tSeq (tDraw4 K) (tSeq (tDraw5 K c) (tDraw6 K c)))))

theorem at0 {α : Type} {x y : α} : L2.atI [x, y] 0 = some x := rfl
theorem at1 {α : Type} {x y : α} : L2.atI [x, y] 1 = some y := rfl
/-- deck[1], deck[0] -/
theorem rd1 {H : Hp} {a c : Addr} {n : Int} {σ : L2.St} {Q : VK} (hs : σ[0]? = some (some (.ref a))) (h : H a = some (.lst [.ref c, .int n])) (q : Q (.int n) H) : tDk1 K σ H Q :=
  ⟨_, hs, .inl ⟨a, _, 1, _, rfl, rfl, SqL.of h, at1, q⟩⟩
theorem rd0 {H : Hp} {a c : Addr} {n : Int} {σ : L2.St} {Q : VK} (hs : σ[0]? = some (some (.ref a))) (h : H a = some (.lst [.ref c, .int n])) (q : Q (.ref c) H) : tDk0 K σ H Q :=
  ⟨_, hs, .inl ⟨a, _, 0, _, rfl, rfl, SqL.of h, at0, q⟩⟩

theorem draw_ok {dk : Dk} {F : Fz} {H : Hp} {st : S} {c : DC} {many : Int} (hc : c.ok) (w : Wd K dk F H st) (h1 : 0 < many) (h2 : many < 1073741824) (h3 : 0 ≤ st.n) (h4 : st.n < nMax) {E : Ends}
    (q : ∀ F' H', Ext dk F H F' H' → Wd K dk F' H' (drawT many st) → E.rt (.int (drawV c many st)) H') : tDraw K c E [some (.ref dk.1), some (.int many), none, none, none] H := by
  obtain ⟨k1, k2, k3, k4, k5, k6, k7, k8⟩ := hc
  -- deck[1] = deck[1] + 1
  refine rd1 rfl w.d1 ⟨st.n, 1, rfl, rfl, _, rfl, dk.1, _, 1, 1, rfl, rfl, w.d1, rfl, ?_⟩
  have hH1 : upd H dk.1 (.lst ([V.ref dk.2, V.int st.n].set 1 (V.int (st.n + 1)))) = upd H dk.1 (.lst [.ref dk.2, .int (st.n + 1)]) := rfl
  rw [hH1]
  have a1 : ∀ (H' : Hp), H' = upd H dk.1 (.lst [.ref dk.2, .int (st.n + 1)]) → H' dk.1 = some (.lst [.ref dk.2, .int (st.n + 1)]) ∧ H' dk.2 = some (.lst (st.cells.map V.int)) := by
    rintro H' rfl
    exact ⟨upd_same, by rw [upd_ne w.ne.symm]; exact w.d2⟩
  generalize hHH : upd H dk.1 (.lst [.ref dk.2, .int (st.n + 1)]) = H1
  obtain ⟨b1, b2⟩ := a1 H1 hHH.symm
  -- cell, at = 0, -1
  refine ⟨1, rfl, by show 2 ≤ sizeLine; decide, fun p hp => ⟨p, _, rfl, SqT.of upd_same, rfl, _, _, rfl, _, _, rfl, rfl, ?_⟩⟩
  have p1 : p ≠ dk.1 := (ne_of_none b1 hp).symm
  have p2 : p ≠ dk.2 := (ne_of_none b2 hp).symm
  generalize hHp : upd H1 p (.tup [.int 0, .int (-1)]) = H2
  have c1 : H2 dk.1 = some (.lst [.ref dk.2, .int (st.n + 1)]) := by rw [← hHp, upd_ne p1.symm]; exact b1
  have c2 : H2 dk.2 = some (.lst (st.cells.map V.int)) := by rw [← hHp, upd_ne p2.symm]; exact b2
  have hp0 : H p = none := by
    rw [← hHH, upd_ne p1] at hp; exact hp
  have keep : ∀ a o, H a = some o → a ≠ dk.1 → a ≠ dk.2 → H2 a = some o := fun a o e n1 n2 => by
    rw [← hHp, upd_ne (ne_of_none e hp0), ← hHH, upd_ne n1]; exact e
  have keepF : Sb F H2 := fun a o e => by
    have m1 : a ≠ dk.1 := fun z => by rw [z, w.f1.1] at e; cases e
    have m2 : a ≠ dk.2 := fun z => by rw [z, w.f2.1] at e; cases e
    rcases w.sub a o e with q | ⟨od, kvs, q1, q2⟩
    · exact .inl (keep a o q m1 m2)
    · exact .inr ⟨od, kvs, q1, keep a _ q2 m1 m2⟩
  have keepO : ∀ (H3 : Hp), (∀ a o, H2 a = some o → a ≠ dk.2 → H3 a = some o) → ∀ (n : Nat) (a : Addr) (o : Ob), F.mu[n]? = some a → st.ob[n]? = some o → F a = none ∧ ObAt K dk F H3 a o := fun H3 hk n a o e1 e2 => by
    obtain ⟨q1, q2⟩ := w.ob n a o e1 e2
    have m1 : a ≠ dk.1 := fun z => w.f1.2 (z ▸ List.mem_of_getElem? e1)
    have m2 : a ≠ dk.2 := fun z => w.f2.2 (z ▸ List.mem_of_getElem? e1)
    exact ⟨q1, q2.keep (fun o e => hk a o (keep a o e m1 m2) m2) (Le.refl F)⟩
  have keepK : ∀ a o, H2 a = some o → Fro o → H a = some o := fun a o e f => by
    rw [← hHp, ← hHH] at e
    exact updK (by rintro ⟨_, _, z⟩; cases z) a o (updK (by rintro ⟨_, _, z⟩; cases z) a o e f) f
  have keepM : ∀ a, H a ≠ none → H2 a ≠ none := fun a e z => by
    by_cases n1 : a = dk.1
    · rw [n1, c1] at z; cases z
    · by_cases n2 : a = dk.2
      · rw [n2, c2] at z; cases z
      · cases q : H a with
        | none => exact e q
        | some o => rw [keep a o q n1 n2] at z; cases z
  have ext2 : Ext dk F H F H2 := ⟨fun a o e n1 n2 _ => keep a o e n1 n2, Le.refl F, fun _ h _ => h, keepM, fun _ h => .inl h, keepK⟩
  have wd2 : Wd K dk F H2 ⟨st.cells, st.n + 1, st.ob⟩ := ⟨keepF, c1, c2, w.f1, w.f2, w.ne, w.ml, w.nd, keepO H2 fun _ _ e _ => e⟩
  -- the cell
  have mid : ∀ (E' : Ends), (∀ v3, (st.cells ≠ [] → v3 = ((atOf st : Nat) : Int) ∧ atOf st < st.cells.length) → E'.nx [some (.ref dk.1), some (.int many), some (.int (cellOf st)), some (.int v3), none] H2) →
      tDraw3 K E' [some (.ref dk.1), some (.int many), some (.int 0), some (.int (-1)), none] H2 := by
    intro E' hE
    refine rd0 rfl c1 ⟨_, _, rfl, .inl ⟨_, SqL.of c2, rfl⟩, _, 0, rfl, rfl, _, rfl, ?_⟩
    by_cases hl : st.cells = []
    · dsimp only
      rw [if_neg (by simp [hl])]
      have e0 : cellOf st = 0 := by unfold cellOf; rw [if_pos hl]
      have := hE (-1) fun z => absurd hl z
      rw [e0] at this
      exact this
    · have hlen : 0 < st.cells.length := List.length_pos_iff.mpr hl
      dsimp only
      rw [if_pos (by simp; exact hlen)]
      refine rd1 rfl c1 (.inl ⟨_, rfl, rd0 rfl c1 ⟨_, _, rfl, .inl ⟨_, SqL.of c2, rfl⟩, _, _, rfl, rfl, by simp; exact hlen, ?_⟩⟩)
      have hm0 : 0 ≤ (st.n + 1) % (st.cells.length : Int) := Int.emod_nonneg _ (by omega)
      have hm1 : (st.n + 1) % (st.cells.length : Int) < st.cells.length := Int.emod_lt_of_pos _ (by omega)
      have hat : ((atOf st : Nat) : Int) = (st.n + 1) % (st.cells.length : Int) := by unfold atOf; omega
      have hal : atOf st < st.cells.length := by omega
      show tAsg (tIx K (tDk0 K) (tVar 3)) (gName 2) E' [some (.ref dk.1), some (.int many), some (.int 0), some (.int ((st.n + 1) % ((st.cells.map V.int).length : Int))), none] H2
      rw [List.length_map, ← hat]
      have hg : L2.atI (st.cells.map V.int) ((atOf st : Nat) : Int) = some (.int (st.cells.getD (atOf st) 0)) := by
        refine atI_nat ?_
        rw [List.getElem?_map, List.getElem?_eq_getElem hal, List.getD_eq_getElem?_getD, List.getElem?_eq_getElem hal]
        rfl
      refine rd0 rfl c1 ⟨_, rfl, .inl ⟨_, _, _, _, rfl, rfl, SqL.of c2, hg, ?_⟩⟩
      have e0 : cellOf st = st.cells.getD (atOf st) 0 := by unfold cellOf; rw [if_neg hl]
      have := hE ((atOf st : Nat) : Int) fun _ => ⟨rfl, hal⟩
      rw [e0] at this
      exact this
  refine mid _ fun v3 hv3 => ?_
  -- a great cell
  refine ⟨_, rfl, 10, 18, rfl, rfl, ⟨by decide, by decide, by decide⟩, _, _, rfl, rfl, _, rfl, ?_⟩
  by_cases hbig : cellOf st ≥ 10 ^ 18
  · have hne : st.cells ≠ [] := fun z => by
      have e0 : cellOf st = 0 := by unfold cellOf; rw [if_pos z]
      rw [e0] at hbig
      revert hbig; decide
    obtain ⟨e3, hal⟩ := hv3 hne
    dsimp only
    rw [if_pos (by simpa using hbig)]
    refine ⟨_, rfl, .inl ⟨_, rfl, _, rfl, _, _, rfl, rfl, ⟨h1, h2⟩, ?_⟩⟩
    refine rd0 rfl c1 ⟨_, rfl, dk.2, _, v3, atOf st, rfl, rfl, c2, ?_, ?_⟩
    · rw [e3]
      unfold ixN
      rw [if_pos (by omega), if_pos (by rw [List.length_map]; omega)]
      simp
    · refine ⟨_, rfl, .inl ⟨_, rfl, _, rfl, _, _, rfl, rfl, h1, ?_⟩⟩
      have ev : drawV c many st = cellOf st % many := by unfold drawV; rw [if_pos hbig]
      have et : drawT many st = ⟨st.cells.set (atOf st) (cellOf st / many), st.n + 1, st.ob⟩ := by unfold drawT; rw [if_pos hbig]
      have es : (st.cells.map V.int).set (atOf st) (.int (cellOf st / many)) = (st.cells.set (atOf st) (cellOf st / many)).map V.int := by rw [List.map_set]
      rw [es]
      have fin := q F (upd H2 dk.2 (.lst ((st.cells.set (atOf st) (cellOf st / many)).map V.int))) ⟨fun a o e n1 n2 _ => by rw [upd_ne n2]; exact keep a o e n1 n2, Le.refl F, fun _ h _ => h, fun a e z => by
        by_cases n2 : a = dk.2
        · rw [n2, upd_same] at z; cases z
        · rw [upd_ne n2] at z; exact keepM a e z, fun _ h => .inl h, fun a o e f => keepK a o (updK (by rintro ⟨_, _, z⟩; cases z) a o e f) f⟩ (by
          rw [et]
          exact ⟨fun a o e => by rw [upd_ne (fun z => by rw [z, w.f2.1] at e; cases e)]; exact keepF a o e, by rw [upd_ne w.ne]; exact c1, upd_same, w.f1, w.f2, w.ne, w.ml, w.nd, keepO _ fun a o e m => by rw [upd_ne m]; exact e⟩)
      rw [ev] at fin
      exact fin
  · dsimp only
    rw [if_neg (by simpa using hbig)]
    have hmix : 0 ≤ cellOf st % c.m1 ∧ cellOf st % c.m1 < c.m1 := ⟨Int.emod_nonneg _ (by omega), Int.emod_lt_of_pos _ k1⟩
    refine ⟨_, rfl, .inl ⟨_, rfl, _, _, rfl, rfl, k1, ?_⟩⟩
    refine rd1 rfl c1 ⟨_, _, rfl, rfl, .inl ⟨by omega, by omega⟩, _, _, rfl, rfl, _, _, rfl, rfl, ?_⟩
    have hb : c.c1 * (st.n + 1) ≤ 65536 * 1000000000001 := by
      unfold nMax at h4
      have x1 : c.c1 * (st.n + 1) ≤ 65536 * (st.n + 1) := Int.mul_le_mul_of_nonneg_right (by omega) (by omega)
      omega
    have hb0 : 0 ≤ c.c1 * (st.n + 1) := Int.mul_nonneg k5 (by omega)
    refine ⟨_, rfl, _, _, rfl, rfl, ⟨by decide, by decide, ?_⟩, .inl ⟨_, rfl, _, _, rfl, rfl, k3, .inl ⟨_, rfl, _, rfl, _, _, rfl, rfl, h1, ?_⟩⟩⟩
    · omega
    · have ev : drawV c many st = ((cellOf st % c.m1 + c.c1 * (st.n + 1) + c.c2) ^ 5 % c.m2) % many := by unfold drawV; rw [if_neg hbig]
      have et : drawT many st = ⟨st.cells, st.n + 1, st.ob⟩ := by unfold drawT; rw [if_neg hbig]
      have fin := q F H2 ext2 (by rw [et]; exact wd2)
      rw [ev] at fin
      exact fin
end
end MD

set_option Elab.async false
set_option linter.all false
set_option maxRecDepth 100000
set_option maxHeartbeats 2000000
namespace MD
open PySem PySem.Spec PyProof.Rows L2
variable {ww : WW}

section
variable {K : Fg} {P : Program} {w : World} {mg : Str → Option Value} {base : Heap}
theorem fn_draw {x qual : Str} {st : Stmt} {f : Addr} {fd : FuncData} {N ps : List Str} {k : Nat} {c : DC} (hc : c.ok) (Fn : Fun K x qual st f fd) (S : FnScope N ps (defScope st)) (hN : N.length = 5) (hp : ps.length = 2)
    (hbody : ∀ (cdv : Value) (A : Around) (outer : List Env) (s : Shared) (H : Hp) (E : XK), PSs (cxOf CX0 P w K mg base N qual (defScope st) f cdv A outer s H E).nox (defBody st) (tDraw K c)) : FnG P w K mg base (k + 1) f fd ps (spD K 2 (drawM c)) := by
  refine fnG_of Fn S (fun vs H Q E h => by rw [hp]; exact h.1) fun cdv A outer s H vs Q E hr gd h => ⟨_, hbody cdv A outer s H E, ?_⟩
  obtain ⟨hlv, dk, F, ds, s0, d, s1, wd, r, e, q⟩ := h
  unfold drawM at e
  split at e
  · split at e
    · rename_i hcnd
      cases e
      cases r with
      | cons a b => cases b with
        | cons b c' =>
          cases c'
          cases a
          cases b
          have es : ∀ i : Int, L2.start N [V.ref dk.1, V.int i] = [some (.ref dk.1), some (.int i), none, none, none] := fun i => by
            unfold L2.start
            rw [hN]
            rfl
          rw [es _]
          exact draw_ok hc wd hcnd.1 hcnd.2.1 hcnd.2.2.1 hcnd.2.2.2 fun F' H' x w => q _ F' H' x w (.int _)
    · cases e
  · cases e

/-! ### the deck is made -/
def absI (i : Int) : Int := if i < 0 then -i else i
def spDeck [WW] (K : Fg) : Sp := fun vs H Q _ => ∃ (a : Addr) (ns : List Int), vs = [.ref a] ∧ SqL K H a (ns.map V.int) ∧ ns.length ≤ 63 ∧
  ∀ (dk : Dk) (H' : Hp), Lh H H' → Wd K dk ⟨fun _ => none, []⟩ H' ⟨ns.map absI, 0, []⟩ → Q (.ref dk.1) H'
def rAbs1 : List V → Hp → VK → Prop := fun xs H Q => ∃ i, xs = [.int i] ∧ Q (.int (if i < 0 then -i else i)) H
def tDeck (K : Fg) : TS := tRet (tLst (tCons (tLc (iList K (tSl (rSlL K) (tVar 0) tNoPart (tPart (tI 63)))) (gName 1) tYes (tCB rAbs1 (tCons (tVar 1) tNil)) [1]) (tCons (tI 0) tNil)))
theorem deck_ok {H : Hp} {a : Addr} {ns : List Int} {E : Ends} (hs : SqL K H a (ns.map V.int)) (hl : ns.length ≤ 63) (q : ∀ (dk : Dk) (H' : Hp), Lh H H' → Wd K dk ⟨fun _ => none, []⟩ H' ⟨ns.map absI, 0, []⟩ → E.rt (.ref dk.1) H') :
    tDeck K E [some (.ref a), none] H := by
  refine ⟨_, rfl, _, rfl, a, _, rfl, hs, fun p hp => ?_⟩
  have ec : cutV (ns.map V.int) none (some 63) = ns.map V.int := by
    unfold cutV
    have e1 : HT.sIx (ns.map V.int).length 0 none = 0 := rfl
    have e2 : HT.sIx (ns.map V.int).length (ns.map V.int).length (some 63) = ns.length := by
      rw [List.length_map]
      have := HT.sIx_nat ns.length ns.length 63
      rw [show ((63 : Nat) : Int) = 63 from rfl] at this
      rw [this]; omega
    rw [e1, e2, List.drop_zero, Nat.sub_zero]
    exact List.take_of_length_le (by rw [List.length_map]; exact Nat.le_refl _)
  rw [ec]
  refine ⟨p, rfl, ⟨_, SqL.of upd_same⟩, fun c hc => ?_⟩
  have ncp : c ≠ p := fun z => by rw [z, upd_same] at hc; cases hc
  have hcH : H c = none := by rw [upd_ne ncp] at hc; exact hc
  refine lc_list (xs := ns.map V.int) (fun i H' => Lh H H' ∧ H' p = some (.lst (ns.map V.int)) ∧ H' c = some (.lst (((ns.take i).map absI).map V.int))) ⟨(Lh.new hp).trans (Lh.new hc), by rw [upd_ne ncp.symm, upd_same], upd_same⟩ (fun i H' _ h => SqL.of h.2.1) (fun i v H' hv h => ?_) fun H' h => ?_
  · obtain ⟨h1, h2, h3⟩ := h
    rw [List.getElem?_map] at hv
    obtain ⟨n, hn, rfl⟩ := mpd hv
    have hil : i < ns.length := by
      by_cases hi : i < ns.length
      · exact hi
      · rw [List.getElem?_eq_none (by omega)] at hn; cases hn
    refine ⟨rfl, ?_⟩
    show tCB rAbs1 (tCons (tVar 1) tNil) _ H' _
    refine ⟨_, rfl, n, rfl, _, h3, ?_, fun b o e => ?_, ?_, ?_⟩
    · rw [List.length_map, List.length_map, List.length_take]
      exact Nat.lt_of_le_of_lt (Nat.min_le_right _ _) (small1000 (by omega))
    · rw [upd_ne (ne_of_none e hcH)]; exact h1 b o e
    · rw [upd_ne ncp.symm]; exact h2
    · rw [upd_same, List.take_add_one, hn]
      simp [absI]
  · obtain ⟨h1, h2, h3⟩ := h
    rw [List.length_map, List.take_length] at h3
    refine ⟨by show 2 ≤ sizeLine; decide, fun d hd => ?_⟩
    have ndc : d ≠ c := fun z => by rw [z, h3] at hd; cases hd
    have fin := q (d, c) (upd H' d (.lst [.ref c, .int 0])) (h1.trans (Lh.new hd)) ⟨fun _ _ z => (nomatch z), upd_same, (upd_ne (a := d) ndc.symm).trans h3, ⟨rfl, fun z => nomatch z⟩, ⟨rfl, fun z => nomatch z⟩, ndc, rfl, List.nodup_nil, fun n a o z => by simp at z⟩
    exact fin
theorem fn_deck {x qual : Str} {st : Stmt} {f : Addr} {fd : FuncData} {N ps : List Str} {k : Nat} (Fn : Fun K x qual st f fd) (S : FnScope N ps (defScope st)) (hN : N.length = 2) (hp : ps.length = 1)
    (hbody : ∀ (cdv : Value) (A : Around) (outer : List Env) (s : Shared) (H : Hp) (E : XK), PSs (cxOf CX0 P w K mg base N qual (defScope st) f cdv A outer s H E).nox (defBody st) (tDeck K)) : FnG P w K mg base (k + 1) f fd ps (spDeck K) := by
  refine fnG_of Fn S (fun vs H Q E h => ?_) fun cdv A outer s H vs Q E hr gd h => ⟨_, hbody cdv A outer s H E, ?_⟩
  · obtain ⟨a, ns, rfl, _⟩ := h
    rw [hp]; rfl
  · obtain ⟨a, ns, rfl, hs, hl, q⟩ := h
    have es : L2.start N [V.ref a] = [some (.ref a), none] := by
      unfold L2.start
      rw [hN]
      rfl
    rw [es]
    exact deck_ok hs hl fun dk H' le wd => q dk H' le wd

/-! ### the law -/
def spLaw (K : Fg) : Sp := fun vs H Q _ => ∃ (a : Addr) (ns : List Int), vs = [.ref a] ∧ SqL K H a (ns.map V.int) ∧ ns.length ≤ 63 ∧ ∀ H', Q (.bl true) H'
/-- the slots behind the law's first statement: the script, the deck, all else -/
def env0 (n : Nat) : Sg := .un :: .val .deck :: List.replicate (n - 2) .un
theorem fn_law {x qual : Str} {st : Stmt} {f : Addr} {fd : FuncData} {N ps : List Str} {k : Nat} {b : MS} (Fn : Fun K x qual st f fd) (S : FnScope N ps (defScope st)) (hN : 2 ≤ N.length) (hp : ps.length = 1)
    (hb : ∀ ns : List Int, ns.length ≤ 63 → ∃ s1, b (env0 N.length) ⟨ns.map absI, 0, []⟩ = some (.rt (.bl true), s1))
    (hbody : ∀ (cdv : Value) (A : Around) (outer : List Env) (s : Shared) (H : Hp) (E : XK), Room k (A.deeper (envOfC qual (defScope st) s.heap.objs.size f cdv)) → (A.deeper (envOfC qual (defScope st) s.heap.objs.size f cdv)).guards = some [] →
      ∃ t, PSs (cxOf CX0 P w K mg base N qual (defScope st) f cdv A outer s H E).nox (defBody st) (tSeq (tAsg (tCall (spDeck K) [] E0 (tCons (tVar 0) tNil)) (gName 1)) t) ∧ ImS K t b) : FnG P w K mg base (k + 1) f fd ps (spLaw K) := by
  refine fnG_of Fn S (fun vs H Q E h => ?_) fun cdv A outer s H vs Q E hr gd h => ?_
  · obtain ⟨a, ns, rfl, _⟩ := h
    rw [hp]; rfl
  · obtain ⟨a, ns, rfl, hs, hl, q⟩ := h
    obtain ⟨t, h1, h2⟩ := hbody cdv A outer s H E hr gd
    refine ⟨_, h1, ?_⟩
    obtain ⟨m, hm⟩ : ∃ m, N.length = m + 2 := ⟨N.length - 2, by omega⟩
    have es : L2.start N [V.ref a] = some (.ref a) :: none :: List.replicate m none := by
      unfold L2.start
      rw [hm]
      rfl
    rw [es]
    refine ⟨_, rfl, a, ns, rfl, hs, hl, fun dk H' le wd => ?_⟩
    obtain ⟨s1, hr1⟩ := hb ns hl
    have g : Good K dk H' ⟨fun _ => none, []⟩ ⟨fun _ => none, []⟩ (some (.ref a) :: some (.ref dk.1) :: List.replicate m none) H' (env0 N.length) ⟨ns.map absI, 0, []⟩ := by
      refine ⟨wd, Ext.refl _ _, by unfold env0; rw [hm]; simp, fun i s e => ?_, fun i j ds es p hne e1 e2 e3 => ?_⟩
      · unfold env0 at e
        match i with
        | 0 => cases e; trivial
        | 1 => cases e; exact ⟨_, rfl, .deck⟩
        | i + 2 =>
          have e' : (List.replicate (N.length - 2) Sl.un)[i]? = some s := e
          rw [List.getElem?_replicate] at e'
          split at e'
          · cases e'; trivial
          · cases e'
      · exfalso
        unfold env0 at e1
        match i with
        | 0 => cases e1
        | 1 => cases e1
        | i + 2 =>
          have e' : (List.replicate (N.length - 2) Sl.un)[i]? = some (.own ds) := e1
          rw [List.getElem?_replicate] at e'
          split at e' <;> cases e'
    refine h2 dk H' _ _ _ H' _ _ _ s1 g hr1 _ ?_
    intro v F' H2 _ _ r
    cases r
    exact q H2
end
end MD

set_option Elab.async false
set_option linter.all false
set_option maxRecDepth 100000
set_option maxHeartbeats 2000000
namespace MD
open PySem PySem.Spec PyProof.Rows L2
variable {ww : WW}

/-- the law's own call, from a heap in which nothing is tracked but the script -/
theorem law_core {P : Program} {w : World} {K : Fg} {mg mb : Str → Option Value} {k : Nat} {fa a : Addr} {fd : FuncData} {x : Str} {sp : Sp} {s1 : Shared} {vs : List Value} (KX : K.In s1.heap) (hns : s1.heap.Ns mainGlobals mg) (hb : s1.heap.Ns builtinsNs mb)
    (hbb : ∀ y : Str, y ≠ "__name__" → mb y = bootBuiltins y) (hlim : s1.heap.NoLimit) (hg : s1.gens = #[]) (ha : s1.heap.get? a = some { cls := .type "list", data := .seq vs.toArray }) (hr : Room k callerA)
    (Fn : ∀ base : Heap, K.In base → base.Ns mainGlobals mg → FnG P w K mg base k fa fd [x] sp) (hbind : ∀ (s : Shared) (u : Value), BindsTo s fd ⟨[u], []⟩ [(x, u)])
    (H : Hp) (hO : Only H) (hok : HOk P w H s1.heap) (hA : ∀ b, H b ≠ none → b = a) (hK : H a ≠ none → K.lookup a = none) (hsp : sp [.ref a] H (fun v _ => v = .bl true) E0) :
    codeAny (model P w) callerA (.call (.ref fa) ⟨[.ref a], []⟩) (fun r s' => r = .ok (.ret (.bool true)) ∧ OldK s1.heap s'.heap ∧ s'.os = s1.os ∧ AllBare s'.gens) s1 := by
  have only : ∀ {b : Addr} {o : Obj} {es : Array DictEntry} {ep : Nat}, s1.heap.get? b = some o → o.data = .dict es ep → H b = none := by
    intro b o es ep e d
    by_cases hz : H b = none
    · exact hz
    · have hba := hA b hz
      rw [hba, ha] at e
      have e' := (Option.some.inj e).symm
      rw [e'] at d
      exact absurd d (fun z => Data.noConfusion z)
  have low : ∀ {b : Addr} {m : Str → Option Value}, s1.heap.Ns b m → (hidT s1.heap H).Ns b m := by
    intro b m hm
    obtain ⟨o, es, ep, e, d, r⟩ := hm
    exact ⟨o, es, ep, hidT_get e (only e d), d, r⟩
  have kin : K.In (hidT s1.heap H) := by
    intro b o e
    refine hidT_get (KX b o e) ?_
    by_cases hz : H b = none
    · exact hz
    · have hba := hA b hz
      rw [hba] at hz e
      rw [hK hz] at e
      cases e
  obtain ⟨mc, l1, l2⟩ := hlim
  have md : Mod K mg (hidT s1.heap H) := ⟨kin, low hns, ⟨mb, low hb, hbb⟩, ⟨mc, low l1, l2⟩⟩
  have en : Env0 P w K mg (hidT s1.heap H) callerA [] s1 H := by
    refine ⟨rfl, md, fun b o e => of_hidT e, Nat.le_of_eq (hidT_size _ _), trivial, fun b z => ?_, hok, .of_eq hg⟩
    exact absurd (show b ∈ ([] : List Addr) from z) (by simp)
  refine codeAny_mono ((Fn _ kin (low hns)).run callerA [] s1 H ⟨[.ref a], []⟩ [.ref a] [.ref a] _ _ hr rfl en (hbind s1 (.ref a)) (.cons rfl .nil) hsp) fun r s' h => ?_
  rcases r with er | fl
  · exact False.elim h
  · cases fl with
    | ret u =>
      obtain ⟨v, H', os, bare, un, hok', r', q⟩ := h
      replace q : v = .bl true := q
      rw [q] at r'
      have hu : u = Value.bool true := r'
      rw [hu]
      refine ⟨rfl, OldK.of_keep fun b o e => ?_, os, bare⟩
      by_cases hz : H b = none
      · exact un.keep b o e hz (fun z => absurd (show b ∈ ([] : List Addr) from z) (by simp)) (by simp)
      · rcases hO b with z | ⟨ob, xs, z⟩
        · exact absurd z hz
        · have k1 := (hok b _ z).1
          have k2 := (hok' b _ (un.frzs b ob _ z)).1
          rw [e] at k1
          rw [k2, k1]
    | next => exact False.elim h
    | brk => exact False.elim h
    | cont => exact False.elim h
theorem law_callG {P : Program} {w : World} {K : Fg} {mg mb : Str → Option Value} {k : Nat} {fa a : Addr} {fd : FuncData} {x : Str} {sp : Sp} {s1 : Shared} {vs : List Value} {ns : List Int} (KX : K.In s1.heap) (hns : s1.heap.Ns mainGlobals mg) (hb : s1.heap.Ns builtinsNs mb)
    (hbb : ∀ y : Str, y ≠ "__name__" → mb y = bootBuiltins y) (hlim : s1.heap.NoLimit) (hg : s1.gens = #[]) (ha : s1.heap.get? a = some { cls := .type "list", data := .seq vs.toArray }) (hi : IntsAre vs ns) (hl : ns.length ≤ sizeLine) (hr : Room k callerA)
    (Fn : ∀ base : Heap, K.In base → base.Ns mainGlobals mg → FnG P w K mg base k fa fd [x] sp) (hbind : ∀ (s : Shared) (u : Value), BindsTo s fd ⟨[u], []⟩ [(x, u)])
    (hsp : ∀ H : Hp, SqL K H a (ns.map V.int) → sp [.ref a] H (fun v _ => v = .bl true) E0) :
    codeAny (model P w) callerA (.call (.ref fa) ⟨[.ref a], []⟩) (fun r s' => r = .ok (.ret (.bool true)) ∧ OldK s1.heap s'.heap ∧ s'.os = s1.os ∧ AllBare s'.gens) s1 := by
  have rv := vals_ints hi
  have lenV := hi.length
  by_cases hk : K.lookup a = none
  · let H : Hp := fun b => if b = a then some (.frz { cls := .type "list", data := .seq vs.toArray } (.lst (ns.map V.int))) else none
    have atA : H a = some (.frz { cls := .type "list", data := .seq vs.toArray } (.lst (ns.map V.int))) := if_pos rfl
    have off : ∀ b, b ≠ a → H b = none := fun b z => if_neg z
    refine law_core KX hns hb hbb hlim hg ha hr Fn hbind H (fun b => ?_) (fun b u z => ?_) (fun b z => ?_) (fun _ => hk) (hsp H (.inl (.inr ⟨_, atA⟩)))
    · by_cases e : b = a
      · rw [e]; exact .inr ⟨_, _, atA⟩
      · exact .inl (off b e)
    · by_cases e : b = a
      · rw [e, atA] at z
        cases z
        rw [e]
        exact ⟨ha, by rw [List.length_map]; exact hl, vs, _, rv, ha⟩
      · rw [off b e] at z; cases z
    · by_cases e : b = a
      · exact e
      · exact absurd (off b e) z
  · obtain ⟨o, ho⟩ : ∃ o, K.lookup a = some o := Option.ne_none_iff_exists'.mp hk
    have e := KX a o ho
    rw [ha] at e
    have eo : o = { cls := .type "list", data := .seq vs.toArray } := (Option.some.inj e).symm
    subst eo
    refine law_core KX hns hb hbb hlim hg ha hr Fn hbind (fun _ => none) (fun _ => .inl rfl) (fun b u z => nomatch (show (none : Option HO) = some u from z)) (fun b z => absurd rfl z) (fun z => absurd rfl z) (hsp _ ?_)
    exact .inr ⟨_, vs.toArray, _, ho, rfl, rfl, rfl, by rw [List.size_toArray, lenV]; exact hl, by simpa using rv⟩
/-- what k_head leaves, from the law's promise -/
theorem walkG {l : PySem.W.OpenLaw} {n k : Nat} {q : Program} {loose : List Str} {XP : (Str → Option Value) → Heap → Prop} {YP : World → Heap → Prop} {d : DefRec} {K : Params → Fg} {x : Str} (hn : l.most = some n) (hn2 : n ≤ 63) (hdf : d.params.defaults = []) (hr : Room k callerA)
    (hY : ∀ (w : World) (h : Heap), YP w h → (K w.params).In h)
    (Fn : ∀ (w : World) (mg : Str → Option Value) (fa : Addr) (h : Heap), (K w.params).In h → h.Ns mainGlobals mg → mg d.name = some (.ref fa) →
      ∃ fd : FuncData, (∀ (s : Shared) (u : Value), BindsTo s fd ⟨[u], []⟩ [(x, u)]) ∧ ∀ base : Heap, (K w.params).In base → base.Ns mainGlobals mg → FnG l.prog w (K w.params) mg base k fa fd [x] (spLaw (K w.params))) :
    PySem.W.WalkO q loose XP YP l.row.toRowW d [] (fun f vs => PySem.call f vs) := by
  refine Att.attach_call hn hdf fun w s₀ s₁ mg mb fa o pm cd doc a vs ns G Y ho hd hcd hmg hobj hints hlen hg => ?_
  have KX := hY w _ Y
  obtain ⟨fd, hb, hF⟩ := Fn w mg fa _ KX G.T.g hmg
  have small : ns.length ≤ sizeLine := Nat.le_trans (Nat.le_trans hlen hn2) (by decide)
  exact law_callG KX G.T.g G.T.b G.T.builtins G.T.nolimit hg hobj hints small hr hF hb fun H hS => ⟨a, ns, rfl, hS, Nat.le_trans hlen hn2, fun _ => rfl⟩
end MD

set_option Elab.async false
set_option linter.all false
set_option maxRecDepth 100000
set_option maxHeartbeats 2000000
namespace MD
open PySem PySem.Spec PyProof.Rows L2
variable {ww : WW}

section
variable {K : Fg} {dk : Dk} {F F' F0 : Fz} {H H' H0 : Hp} {X : Cx}
/-! rules of several kinds in one -/
def rAddA (K : Fg) : R2 := fun x y H Q => rI0 (fun i j => .int (i + j)) x y H Q ∨ (∃ i j, x = .str i ∧ y = .str j ∧ i.length + j.length ≤ sizeLine ∧ Q (.str (i ++ j)) H) ∨ rCatA K x y H Q ∨ rCat x y H Q
theorem op_addA : OpR X (binaryOp .Add) (rAddA X.K) := OpR.or op_add (OpR.or op_add_str (OpR.or op_catA op_cat))
def addM : D → D → Option D
  | .int i, .int j => some (.int (i + j))
  | .str i, .str j => if i.length + j.length ≤ sizeLine then some (.str (i ++ j)) else none
  | .tup i, .tup j => if i.length + j.length ≤ sizeLine then some (.tup (i ++ j)) else none
  | .lst i, .lst j => if i.length + j.length ≤ sizeLine then some (.lst (i ++ j)) else none
  | _, _ => none
theorem ro_addA : RO K (rAddA K) addM := by
  intro dk F H st x y d e z w rx ry hz Q q
  unfold addM at hz
  split at hz
  · exact .inl (ro_I0 (fun i j => rc_int (i + j)) dk F H st x y _ _ z w rx ry hz Q q)
  · exact .inr (.inl (ro_strCat dk F H st x y _ _ z w rx ry hz Q q))
  · exact .inr (.inr (.inl (ro_tupCat dk F H st x y _ _ z w rx ry hz Q q)))
  · refine .inr (.inr (.inr (rof_lstCat.ro dk F H st x y _ _ z w rx ry ?_ Q q)))
    unfold lstCat
    split at hz
    · rename_i hc
      simp only [hc, if_true]; exact hz
    · cases hz
  · cases hz
abbrev subM : D → D → Option D := iI fun i j => .int (i - j)
abbrev mulM : D → D → Option D := iIC CMul fun i j => .int (i * j)
abbrev fdivM : D → D → Option D := iIC CDiv fun i j => .int (i / j)
abbrev modM : D → D → Option D := iIC (fun _ j => 0 < j) fun i j => .int (i % j)
abbrev powM : D → D → Option D := iIC CPow fun i j => .int (i ^ j.toNat)
abbrev ltM : D → D → Option D := iI fun i j => .bl (decide (i < j))
abbrev leM : D → D → Option D := iI fun i j => .bl (decide (i ≤ j))
abbrev gtM : D → D → Option D := iI fun i j => .bl (decide (j < i))
abbrev geM : D → D → Option D := iI fun i j => .bl (decide (j ≤ i))
theorem ro_sub : RO K (rI0 fun i j => .int (i - j)) subM := ro_I0 fun i j => rc_int _
theorem ro_mul : RO K (rI CMul fun i j => .int (i * j)) mulM := ro_I fun i j => rc_int _
theorem ro_fdiv : RO K (rI CDiv fun i j => .int (i / j)) fdivM := ro_I fun i j => rc_int _
theorem ro_mod : RO K (rI (fun _ j => 0 < j) fun i j => .int (i % j)) modM := ro_I fun i j => rc_int _
theorem ro_pow : RO K (rI CPow fun i j => .int (i ^ j.toNat)) powM := ro_I fun i j => rc_int _
theorem ro_lt : RO K (rI0 fun i j => .bl (decide (i < j))) ltM := ro_I0 fun i j => rc_bl _
theorem ro_le : RO K (rI0 fun i j => .bl (decide (i ≤ j))) leM := ro_I0 fun i j => rc_bl _
theorem ro_gt : RO K (rI0 fun i j => .bl (decide (j < i))) gtM := ro_I0 fun i j => rc_bl _
theorem ro_ge : RO K (rI0 fun i j => .bl (decide (j ≤ i))) geM := ro_I0 fun i j => rc_bl _
theorem ro_ipAdd : RO K (ipI fun i j => i + j) (iI fun i j => .int (i + j)) := ro_I0 fun i j => rc_int _
theorem ro_ipSub : RO K (ipI fun i j => i - j) (iI fun i j => .int (i - j)) := ro_I0 fun i j => rc_int _
/-! in -/
def rInA (K : Fg) : R2 := fun x y H Q => (∃ (c : Nat) (z : Str), x = .str ⟨#[c]⟩ ∧ y = .str z ∧ Q (.bl (decide (c ∈ z.cps.toList))) H) ∨ rIn K false x y H Q
def rNotInA (K : Fg) : R2 := fun x y H Q => (∃ (c : Nat) (z : Str), x = .str ⟨#[c]⟩ ∧ y = .str z ∧ Q (.bl (!decide (c ∈ z.cps.toList))) H) ∨ rIn K true x y H Q
theorem op_inA : OpR X (compareOp .In) (rInA X.K) := OpR.or op_in_sign op_in_seq
theorem op_notInA : OpR X (compareOp .NotIn) (rNotInA X.K) := OpR.or op_notIn_sign op_notIn_seq
def inM (d e : D) : Option D := match e with
  | .str _ => inSign d e
  | _ => inSeq false d e
def notInM (d e : D) : Option D := match e with
  | .str _ => notInSign d e
  | _ => inSeq true d e
theorem ro_in : RO K (rInA K) inM := by
  intro dk F H st x y d e z w rx ry hz Q q
  unfold inM at hz
  split at hz
  · exact .inl (ro_inSign dk F H st x y _ _ z w rx ry hz Q q)
  · exact .inr (ro_inSeq false dk F H st x y _ _ z w rx ry hz Q q)
theorem ro_notIn : RO K (rNotInA K) notInM := by
  intro dk F H st x y d e z w rx ry hz Q q
  unfold notInM at hz
  split at hz
  · exact .inl (ro_notInSign dk F H st x y _ _ z w rx ry hz Q q)
  · exact .inr (ro_inSeq true dk F H st x y _ _ z w rx ry hz Q q)
/-! tuple(..) of a list, a tuple, a text -/
def rTupA (K : Fg) : List V → Hp → VK → Prop := fun xs H Q => (∃ p ys, xs = [.ref p] ∧ ((SqL K H p ys ∧ ∀ l, H l = none → Q (.ref l) (upd H l (.tup ys))) ∨ (SqT K H p ys ∧ Q (.ref p) H))) ∨
  ∃ x, xs = [.str x] ∧ x.cps.size ≤ sizeLine ∧ ∀ p, H p = none → Q (.ref p) (upd H p (.tup ((signs x).map V.str)))
theorem call_tupA (hc : X.calm = true) : CallR X (.type "tuple") (rTupA X.K) := CallR.or call_tuple_of (call_tupStr hc)
def tupleM : List D → Option D
  | [.lst ds] => some (.tup ds)
  | [.tup ds] => some (.tup ds)
  | [.str x] => if x.cps.size ≤ sizeLine then some (.tup ((signs x).map D.str)) else none
  | _ => none
theorem rc_tupA : RC K (rTupA K) tupleM := by
  intro dk F H st vs ds z w rx hz Q q
  unfold tupleM at hz
  split at hz
  · exact .inl (rc_tupOf dk F H st vs _ z w rx hz Q q)
  · exact .inl (rc_tupOf dk F H st vs _ z w rx hz Q q)
  · exact .inr (rc_tupStr dk F H st vs _ z w rx hz Q q)
  · cases hz
/-! module constants -/
theorem pe_gstr {x : Str} {s : Str} {pos : Pos} (hg : Gl X x) (hm : ∃ t, X.mg x = some (.str s t)) (hd : (x == ("__debug__" : Str)) = false := by decide) : PE X (.Name x pos) (tC (.str s)) := by
  obtain ⟨t, h⟩ := hm
  exact pe_glob hg h ⟨t, rfl⟩ hd
theorem pe_gint {x : Str} {i : Int} {pos : Pos} (hg : Gl X x) (hm : ∃ t, X.mg x = some (.int i t)) (hd : (x == ("__debug__" : Str)) = false := by decide) : PE X (.Name x pos) (tC (.int i)) := by
  obtain ⟨t, h⟩ := hm
  exact pe_glob hg h ⟨t, rfl⟩ hd
end
/-! a def that is known to its callers -/
def Cal (P : Program) (w : World) (K : Fg) (mg : Str → Option Value) (base : Heap) (k : Nat) (x : Str) (ps : List Str) (sp : Sp) : Prop :=
  ∃ f fd, FnG P w K mg base k f fd ps sp ∧ mg x = some (.ref f) ∧ PySem.W.keepIn K (.ref f) = true ∧ Binds K fd ps []
section
variable {X : Cx} {k j : Nat} {ps : List Str} {sp : Sp} {x : Str} {p pos : Pos} {e : Expr} {es : List Expr} {t : TA}
theorem pe_callC (C : Cal X.prog X.w X.K X.mg X.base j x ps sp) (hr : Room k X.A) (gd : X.A.guards = some []) (hg : Gl X x) (ha : PA X (e :: es) t) (hj : j ≤ k := by decide) (hdb : (x == ("__debug__" : Str)) = false := by decide)
    (he : starEach (e :: es) X.env = (false, eval e X.env) :: starEach es X.env := by rfl) (hpl : (backTo pos (starEach es X.env)).any (·.1) = false := by rfl) : PE X (.Call (.Name x p) (e :: es) [] pos) (tCall sp [] E0 t) := by
  obtain ⟨f, fd, F, hm, hk, hb⟩ := C
  exact pe_callG F (hr.mono hj) gd hg hm hk hb ha hdb he hpl
end
end MD

set_option Elab.async false
set_option linter.all false
set_option maxRecDepth 100000
set_option maxHeartbeats 1000000
namespace MD
open PySem L2
variable {ww : WW}

/-! ### dicts with ints and texts as keys -/
def keyOf : D → Option Key
  | .int i => some (.inl i)
  | .str x => some (.inr x)
  | _ => none
def keyD : Key → D
  | .inl i => .int i
  | .inr x => .str x
section
variable {K : Fg} {dk : Dk} {F F' F0 : Fz} {H H' H0 : Hp} {σ : L2.St} {env : Sg} {st : S}
theorem keyOf_rw {v : V} {d : D} {k : Key} (r : Rw K dk F H v d) (h : keyOf d = some k) : v = kV k := by
  cases d with
  | int i => cases h; exact r.int
  | str x => cases h; exact r.str
  | _ => cases h
theorem keyD_rp (k : Key) : Rp K dk F (kV k) (keyD k) := by
  cases k with
  | inl i => exact .int i
  | inr x => exact .str x
def getK {α : Type} : List Key → List α → Key → Option α
  | k' :: ks, x :: xs, k => if k' = k then some x else getK ks xs k
  | _, _, _ => none
theorem getK_val : ∀ {vs : List V} {ds : List D} (ks : List Key) (k : Key), Rps K dk F vs ds → ks.length = vs.length →
    (∀ d, getK ks ds k = some d → ∃ v, valV (ks.zip vs) k = some v ∧ Rp K dk F v d) ∧ (getK ks ds k = none → valV (ks.zip vs) k = none)
  | _, _, [], k, .nil, _ => ⟨fun d h => (by cases h), fun _ => rfl⟩
  | _, _, [], k, .cons a r, h => by simp at h
  | _, _, k' :: ks, k, .nil, h => by simp at h
  | v :: vs, d :: ds, k' :: ks, k, .cons a r, h => by
    obtain ⟨i1, i2⟩ := getK_val ks k r (by simpa using h)
    rw [List.zip_cons_cons]
    unfold getK
    by_cases e : k' = k
    · rw [if_pos e, valV_pos (p := (k', v)) e]
      exact ⟨fun d' h => (by cases h; exact ⟨v, rfl, a⟩), fun h => (by cases h)⟩
    · rw [if_neg e, valV_neg (p := (k', v)) e]
      exact ⟨i1, i2⟩
def hasK (ks : List Key) (k : Key) : Bool := ks.any fun k' => decide (k' = k)
def putKs (ks : List Key) (k : Key) : List Key := if hasK ks k = true then ks else ks ++ [k]
def putVs {α : Type} (ks : List Key) (xs : List α) (k : Key) (x : α) : List α := if hasK ks k = true then List.zipWith (fun k' x' => if k' = k then x else x') ks xs else xs ++ [x]
theorem put_len {α : Type} {ks : List Key} {xs : List α} {k : Key} {x : α} (h : ks.length = xs.length) : (putKs ks k).length = (putVs ks xs k x).length := by
  unfold putKs putVs
  by_cases e : hasK ks k = true
  · rw [if_pos e, if_pos e, List.length_zipWith, h, Nat.min_self]
  · rw [if_neg e, if_neg e, List.length_append, List.length_append, h]; rfl
theorem any_zip {vs : List V} (k : Key) : ∀ (ks : List Key) (vs : List V), ks.length = vs.length → ((ks.zip vs).any fun kv => decide (kv.1 = k)) = hasK ks k
  | [], [], _ => rfl
  | k' :: ks, v :: vs, h => by
    rw [List.zip_cons_cons, List.any_cons, any_zip (vs := vs) k ks vs (by simpa using h)]
    rfl
theorem map_zip (k : Key) (v : V) : ∀ (ks : List Key) (vs : List V), (ks.zip vs).map (fun kv => if kv.1 = k then (kv.1, v) else kv) = ks.zip (List.zipWith (fun k' x' => if k' = k then v else x') ks vs)
  | [], _ => rfl
  | _ :: _, [] => rfl
  | k' :: ks, u :: vs => by
    rw [List.zip_cons_cons, List.map_cons, map_zip k v ks vs, List.zipWith_cons_cons, List.zip_cons_cons]
    by_cases e : k' = k
    · simp [e]
    · simp [e]
theorem put_zip {ks : List Key} {vs : List V} {k : Key} {v : V} (h : ks.length = vs.length) : putK (ks.zip vs) k v = (putKs ks k).zip (putVs ks vs k v) := by
  unfold putK putKs putVs
  rw [any_zip (vs := vs) k ks vs h]
  by_cases e : hasK ks k = true
  · rw [if_pos e, if_pos e, if_pos e, map_zip]
  · rw [if_neg e, if_neg e, if_neg e, List.zip_append h]; rfl
theorem put_rps {k : Key} {v : V} {d : D} (r : Rp K dk F v d) : ∀ {vs : List V} {ds : List D} (ks : List Key), Rps K dk F vs ds → Rps K dk F (List.zipWith (fun k' x' => if k' = k then v else x') ks vs) (List.zipWith (fun k' x' => if k' = k then d else x') ks ds)
  | _, _, [], _ => .nil
  | _, _, _ :: _, .nil => .nil
  | _, _, k' :: ks, .cons a b => by
    rw [List.zipWith_cons_cons, List.zipWith_cons_cons]
    refine .cons ?_ (put_rps r ks b)
    by_cases e : k' = k
    · rw [if_pos e, if_pos e]; exact r
    · rw [if_neg e, if_neg e]; exact a
theorem putVs_rps {k : Key} {v : V} {d : D} {vs : List V} {ds : List D} {ks : List Key} (r : Rp K dk F v d) (rs : Rps K dk F vs ds) : Rps K dk F (putVs ks vs k v) (putVs ks ds k d) := by
  unfold putVs
  by_cases e : hasK ks k = true
  · rw [if_pos e, if_pos e]; exact put_rps r ks rs
  · rw [if_neg e, if_neg e]; exact rs.append (Rps.one r)

theorem pe_or {X : Cx} {e : Expr} {t t' : TE} (h : PE X e t) (h' : PE X e t') : PE X e (fun σ H Q => t σ H Q ∨ t' σ H Q) :=
  ⟨fun pins s σ H Q I q => q.elim (h.run pins s σ H Q I) (h'.run pins s σ H Q I)⟩
theorem ps_or {X : Cx} {e : Stmt} {t t' : TS} (h : PS X e t) (h' : PS X e t') : PS X e (fun E σ H => t E σ H ∨ t' E σ H) :=
  ⟨fun pins s σ H E I q => q.elim (h.run pins s σ H E I) (h'.run pins s σ H E I)⟩
/-! e[k], of a list, a tuple, a text, a dict -/
def dgetD : List Key → List D → D → Option D := fun ks ds k => (keyOf k).bind fun k => getK ks ds k
def subD (d e : D) : Option D := match d with
  | .dic ks ds => dgetD ks ds e
  | d => ixM d e
def tSub (K : Fg) (ta tb : TE) : TE := fun σ H Q => tDGet ta tb σ H Q ∨ tOp (rIx K) ta tb σ H Q
theorem pe_sub {X : Cx} {o i : Expr} {pos : Pos} {ta tb : TE} (hu : X.A.units + 1 < cLine) (ho : PE X o ta) (hi : PE X i tb) (hs : NoSl i := by intro _ _; rfl) (hs' : PlainIx i := by intro _ _; rfl) : PE X (.Subscript o i pos) (tSub X.K ta tb) :=
  pe_or (pe_dget hu ho hi hs) (pe_ix ix_seq ho hi hs')
theorem im_sub {ta tb : TE} {fa fb : ME} (ha : ImW K ta fa) (hb : ImW K tb fb) : Im K (tSub K ta tb) (opM subD fa fb) := fun dk H0 F0 F σ H env st d st' g e Q q => by
  obtain ⟨⟨x, s1⟩, h1, e'⟩ := bnd e
  obtain ⟨⟨y, s2⟩, h2, e'⟩ := bnd e'
  obtain ⟨z, h3, e'⟩ := mpd e'
  cases e'
  by_cases hd : ∃ ks ds, dr s2 x = .dic ks ds
  · obtain ⟨ks, ds, hd⟩ := hd
    refine .inl ?_
    refine ha dk H0 F0 F σ H env st x s1 g h1 _ fun v F1 H1 x1 g1 r1 => ?_
    refine hb dk H0 F0 F1 σ H1 env s1 y _ g1 h2 _ fun u F2 H2 x2 g2 r2 => ?_
    have r3 := (r1.ext x2).dr g2.wd
    rw [hd] at r3
    obtain ⟨p, vs, rfl, hr, hl, r⟩ := r3.d g2.wd.sub
    replace h3 : subD (dr s2 x) (dr s2 y) = some d := h3
    rw [hd] at h3
    obtain ⟨k, h4, h5⟩ := bnd (show (keyOf (dr s2 y)).bind (fun k => getK ks ds k) = some d from h3)
    obtain ⟨w, hw, rw'⟩ := (getK_val ks k r hl).1 _ h5
    exact ⟨p, w, rfl, .inl ⟨_, k, hr, keyOf_rw (r2.dr g2.wd) h4, hw.symm⟩, q w F2 H2 (x1.trans x2) g2 rw'⟩
  · refine .inr (im_op ro_ix ha hb dk H0 F0 F σ H env st d s2 g ?_ Q q)
    unfold opM
    rw [h1]
    show ((fb env s1).bind _) = _
    rw [h2]
    show (ixM (dr s2 x) (dr s2 y)).map _ = _
    have : subD (dr s2 x) (dr s2 y) = ixM (dr s2 x) (dr s2 y) := by
      unfold subD
      split
      · rename_i ks ds hx
        exact absurd ⟨ks, ds, hx⟩ hd
      · rfl
    rw [← this, show subD (dr s2 x) (dr s2 y) = some d from h3]
    rfl
/-! k in d, k not in d -/
def cntD (neg : Bool) (d e : D) : Option D := match e with
  | .dic ks ds => (keyOf d).map fun k => .bl (if neg then !(getK ks ds k).isSome else (getK ks ds k).isSome)
  | e => if neg then notInM d e else inM d e
def tIn (K : Fg) (ta tb : TE) : TE := fun σ H Q => tDIn ta tb σ H Q ∨ tOp (rInA K) ta tb σ H Q
def tNotIn (K : Fg) (ta tb : TE) : TE := fun σ H Q => tDNotIn ta tb σ H Q ∨ tOp (rNotInA K) ta tb σ H Q
theorem pe_in {X : Cx} {a b : Expr} {pos : Pos} {ta tb : TE} (hu : X.A.units + 1 < cLine) (ha : PE X a ta) (hb : PE X b tb) (hm : behindInMarks .In b = false := by rfl) : PE X (.Compare a [.In] [b] pos) (tIn X.K ta tb) :=
  pe_or (pe_cmp (pc_din hu ha hb) hm) (pe_cmpR op_inA ha hb hm)
theorem pe_notIn {X : Cx} {a b : Expr} {pos : Pos} {ta tb : TE} (hu : X.A.units + 1 < cLine) (ha : PE X a ta) (hb : PE X b tb) (hm : behindInMarks .NotIn b = false := by rfl) : PE X (.Compare a [.NotIn] [b] pos) (tNotIn X.K ta tb) :=
  pe_or (pe_cmp (pc_dnotin hu ha hb) hm) (pe_cmpR op_notInA ha hb hm)
theorem im_inX (neg : Bool) {ta tb t : TE} {fa fb : ME} (r : R2) (ro : RO K r (fun d e => if neg then notInM d e else inM d e))
    (hin : ∀ σ H Q, (ta σ H fun y H1 => tb σ H1 fun x H2 => ∃ a o, x = .ref a ∧ DGet H2 a y o ∧ Q (.bl (if neg then !o.isSome else o.isSome)) H2) ∨ tOp r ta tb σ H Q → t σ H Q) (ha : ImW K ta fa) (hb : ImW K tb fb) : Im K t (opM (cntD neg) fa fb) := fun dk H0 F0 F σ H env st d st' g e Q q => by
  obtain ⟨⟨x, s1⟩, h1, e'⟩ := bnd e
  obtain ⟨⟨y, s2⟩, h2, e'⟩ := bnd e'
  obtain ⟨z, h3, e'⟩ := mpd e'
  cases e'
  refine hin σ H Q ?_
  by_cases hd : ∃ ks ds, dr s2 y = .dic ks ds
  · obtain ⟨ks, ds, hd⟩ := hd
    refine .inl ?_
    refine ha dk H0 F0 F σ H env st x s1 g h1 _ fun v F1 H1 x1 g1 r1 => ?_
    refine hb dk H0 F0 F1 σ H1 env s1 y _ g1 h2 _ fun u F2 H2 x2 g2 r2 => ?_
    have r3 := r2.dr g2.wd
    rw [hd] at r3
    obtain ⟨p, vs, rfl, hr, hl, r⟩ := r3.d g2.wd.sub
    replace h3 : cntD neg (dr s2 x) (dr s2 y) = some d := h3
    rw [hd] at h3
    obtain ⟨k, h4, h5⟩ := mpd (show (keyOf (dr s2 x)).map (fun k => D.bl (if neg then !(getK ks ds k).isSome else (getK ks ds k).isSome)) = some d from h3)
    subst h5
    obtain ⟨i1, i2⟩ := getK_val ks k r hl
    refine ⟨p, _, rfl, .inl ⟨_, k, hr, keyOf_rw ((r1.ext x2).dr g2.wd) h4, rfl⟩, ?_⟩
    have es : (valV (ks.zip vs) k).isSome = (getK ks ds k).isSome := by
      cases hk : getK ks ds k with
      | none => rw [i2 hk]; rfl
      | some w => obtain ⟨u, hu, _⟩ := i1 w hk; rw [hu]; rfl
    rw [es]
    exact q _ F2 H2 (x1.trans x2) g2 (.bl _)
  · refine .inr (im_op ro ha hb dk H0 F0 F σ H env st d s2 g ?_ Q q)
    unfold opM
    rw [h1]
    show ((fb env s1).bind _) = _
    rw [h2]
    show ((fun d e => if neg then notInM d e else inM d e) (dr s2 x) (dr s2 y)).map _ = _
    have : cntD neg (dr s2 x) (dr s2 y) = if neg then notInM (dr s2 x) (dr s2 y) else inM (dr s2 x) (dr s2 y) := by
      unfold cntD
      split
      · rename_i ks ds hx
        exact absurd ⟨ks, ds, hx⟩ hd
      · rfl
    dsimp only
    rw [← this, show cntD neg (dr s2 x) (dr s2 y) = some d from h3]
    rfl
theorem im_in {ta tb : TE} {fa fb : ME} (ha : ImW K ta fa) (hb : ImW K tb fb) : Im K (tIn K ta tb) (opM (cntD false) fa fb) := im_inX false (rInA K) ro_in (fun σ H Q h => h) ha hb
theorem im_notIn {ta tb : TE} {fa fb : ME} (ha : ImW K ta fa) (hb : ImW K tb fb) : Im K (tNotIn K ta tb) (opM (cntD true) fa fb) := im_inX true (rNotInA K) ro_notIn (fun σ H Q h => h) ha hb
/-! len(d), list(d) -/
theorem call_lenR {X : Cx} : CallR X (.builtin "len") (fun xs H Q => ∃ a kvs, xs = [V.ref a] ∧ Rd H a (.dK kvs) ∧ Q (.int kvs.length) H) := by
  intro pins s σ H xs us Q I r h
  obtain ⟨a, kvs, rfl, ha, q⟩ := h
  obtain ⟨u, rfl, ru⟩ := vals1 r
  cases ru
  exact d_len I ha fun t s' I' => ⟨.int kvs.length, H, I', ⟨t, rfl⟩, q⟩
def lenA : List D → Option D
  | [.dic ks _] => some (.int ks.length)
  | ds => lenM ds
def rLenA (K : Fg) : List V → Hp → VK → Prop := fun xs H Q => (∃ a kvs, xs = [V.ref a] ∧ Rd H a (.dK kvs) ∧ Q (.int kvs.length) H) ∨ ∃ x n, xs = [x] ∧ LenV K x H n ∧ Q (.int n) H
theorem call_lenA {X : Cx} : CallR X (.builtin "len") (rLenA X.K) := CallR.or call_lenR call_len
theorem rc_lenA : RC K (rLenA K) lenA := by
  intro dk F H st vs ds z w rx hz Q q
  unfold lenA at hz
  split at hz
  · cases hz
    obtain ⟨v, rfl, r⟩ := rx.one
    obtain ⟨p, vs, rfl, hr, hl, r⟩ := r.d w.sub
    refine .inl ⟨p, _, rfl, hr, ?_⟩
    rw [List.length_zip, hl, Nat.min_self, ← hl]
    exact q _ F H (Px.refl w.sub) (.int _)
  · exact .inr (rc_len dk F H st vs _ z w rx hz Q q)
/-! d.get(k), d.get(k, x) -/
def isDicD : D → Option (List Key × List D)
  | .dic ks ds => some (ks, ds)
  | _ => none
theorem isDicD_eq {d : D} {q : List Key × List D} (h : isDicD d = some q) : d = .dic q.1 q.2 := by
  cases d <;> first | (cases h; rfl) | cases h
def get1M (fd fk : ME) : ME := fun env st => (fd env st).bind fun p => (isDicD (dr p.2 p.1)).bind fun _ => (fk env p.2).bind fun q => (isDicD (dr q.2 p.1)).bind fun z => (keyOf q.1).map fun k => ((getK z.1 z.2 k).getD .non, q.2)
theorem im_get1 {td ty : TE} {fd fk : ME} (hd : ImW K td fd) (hk : ImW K ty fk) : Im K (tDGet1 td ty) (get1M fd fk) := fun dk H0 F0 F σ H env st d st' g e Q q => by
  obtain ⟨⟨x, s1⟩, h1, e⟩ := bnd e
  obtain ⟨_, h2, e⟩ := bnd e
  obtain ⟨⟨y, s2⟩, h3, e⟩ := bnd e
  obtain ⟨⟨ks, ds⟩, h4, e⟩ := bnd e
  obtain ⟨k, h5, e⟩ := mpd e
  cases e
  refine hd dk H0 F0 F σ H env st x s1 g h1 _ fun v F1 H1 x1 g1 r1 => ?_
  have r1' := r1.dr g1.wd
  rw [isDicD_eq h2] at r1'
  obtain ⟨p, _, rfl, hr, _, _⟩ := r1'.d g1.wd.sub
  refine ⟨p, rfl, .inl ⟨_, hr⟩, ?_⟩
  refine hk dk H0 F0 F1 σ H1 env s1 y _ g1 h3 _ fun u F2 H2 x2 g2 r2 => ?_
  have r3 := (r1.ext x2).dr g2.wd
  rw [isDicD_eq h4] at r3
  obtain ⟨p', vs, e', hr, hl, r⟩ := r3.d g2.wd.sub
  cases e'
  obtain ⟨i1, i2⟩ := getK_val ks k r hl
  refine ⟨_, .inl ⟨_, k, hr, keyOf_rw r2.w h5, rfl⟩, ?_⟩
  dsimp only at q ⊢
  cases hk : getK ks ds k with
  | none =>
    rw [i2 hk]
    rw [hk] at q
    exact q .non F2 H2 (x1.trans x2) g2 .non
  | some d =>
    obtain ⟨u, hu, ru⟩ := i1 d hk
    rw [hu]
    rw [hk] at q
    exact q u F2 H2 (x1.trans x2) g2 ru
def get2M (fd fk fx : ME) : ME := fun env st => (fd env st).bind fun p => (isDicD (dr p.2 p.1)).bind fun _ => (fk env p.2).bind fun q => (fx env q.2).bind fun r => (isDicD (dr r.2 p.1)).bind fun z => (keyOf q.1).map fun k => ((getK z.1 z.2 k).getD r.1, r.2)
theorem im_get2 {td ty tx : TE} {fd fk fx : ME} (hd : ImW K td fd) (hk : ImW K ty fk) (hx : Im K tx fx) : Im K (tDGet2 td ty tx) (get2M fd fk fx) := fun dk H0 F0 F σ H env st d st' g e Q q => by
  obtain ⟨⟨x, s1⟩, h1, e⟩ := bnd e
  obtain ⟨_, h2, e⟩ := bnd e
  obtain ⟨⟨y, s2⟩, h3, e⟩ := bnd e
  obtain ⟨⟨z, s3⟩, h6, e⟩ := bnd e
  obtain ⟨⟨ks, ds⟩, h4, e⟩ := bnd e
  obtain ⟨k, h5, e⟩ := mpd e
  cases e
  refine hd dk H0 F0 F σ H env st x s1 g h1 _ fun v F1 H1 x1 g1 r1 => ?_
  have r1' := r1.dr g1.wd
  rw [isDicD_eq h2] at r1'
  obtain ⟨p, _, rfl, hr, _, _⟩ := r1'.d g1.wd.sub
  refine ⟨p, rfl, .inl ⟨_, hr⟩, ?_⟩
  refine hk dk H0 F0 F1 σ H1 env s1 y _ g1 h3 _ fun u F2 H2 x2 g2 r2 => ?_
  refine hx dk H0 F0 F2 σ H2 env s2 z _ g2 h6 _ fun w F3 H3 x3 g3 rz => ?_
  have x23 := x2.trans x3
  have r3 := (r1.ext x23).dr g3.wd
  rw [isDicD_eq h4] at r3
  obtain ⟨p', vs, e', hr, hl, r⟩ := r3.d g3.wd.sub
  cases e'
  obtain ⟨i1, i2⟩ := getK_val ks k r hl
  refine ⟨_, .inl ⟨_, k, hr, keyOf_rw (r2.ext x3).w h5, rfl⟩, ?_⟩
  dsimp only at q ⊢
  cases hk : getK ks ds k with
  | none =>
    rw [i2 hk]
    rw [hk] at q
    exact q w F3 H3 (x1.trans x23) g3 rz
  | some d =>
    obtain ⟨u, hu, ru⟩ := i1 d hk
    rw [hu]
    rw [hk] at q
    exact q u F3 H3 (x1.trans x23) g3 ru
/-! d[k] = v, of a name's own dict -/
def dputM (i : Nat) (fk fv : ME) : MS := fun env st => match env[i]? with
  | some (.own (.dic ks, ds)) => (fv env st).bind fun p => (fk env p.2).bind fun q => (keyOf q.1).bind fun k => if ds.length < sizeLine then some (.nx (env.set i (.own (.dic (putKs ks k), putVs ks ds k p.1))), q.2) else none
  | _ => none
theorem is_dput {ty tv : TE} {fk fv : ME} (i : Nat) (hk : ImW K ty fk) (hv : Im K tv fv) : ImS K (sDPut (tVar i) ty tv) (dputM i fk fv) := fun dk H0 F0 F σ H env st fl st' g e E hd => by
  unfold dputM at e
  split at e
  · rename_i ks ds he
    obtain ⟨⟨d, s1⟩, e1, e⟩ := bnd e
    obtain ⟨⟨y, s2⟩, e2, e⟩ := bnd e
    obtain ⟨k, e3, e⟩ := bnd e
    split at e
    · rename_i hz
      cases e
      obtain ⟨p, vs, h1, ⟨h2, h2'⟩, h3, h4, h5, h6, h7⟩ := g.sl i _ he
      refine hv dk H0 F0 F σ H env st d s1 g e1 _ fun v F1 H1 x1 g1 r1 => ?_
      refine ⟨.ref p, join_eq h1, hk dk H0 F0 F1 σ H1 env s1 y s2 g1 e2 _ fun u F2 H2 x2 g2 r2 => ?_⟩
      have x12 := x1.trans x2
      have hl := h7.length
      refine ⟨p, _, rfl, .inl ⟨ks.zip vs, k, x12.h _ _ h2 h5 h6 (.inl h3.2), keyOf_rw r2.w e3, ?_, rfl⟩, ?_⟩
      · rw [List.length_zip, h2', Nat.min_self, hl]; exact hz
      · refine hd F2 σ _ x12.f (g2.mut (ds' := (.dic (putKs ks k), putVs ks ds k d)) (vs' := putVs ks vs k v) he (join_eq h1) ⟨?_, put_len h2'⟩ (putVs_rps (r1.mono x2.f) (h7.mono x12.f)))
        rw [upd_same, put_zip h2']
    · cases e
  · cases e
/-! ### new dicts -/
abbrev MK := Sg → S → Option ((List Key × List D) × S)
def ImK [WW] (K : Fg) (te : TE) (f : MK) : Prop := ∀ (dk : Dk) (H0 : Hp) (F0 F : Fz) (σ : L2.St) (H : Hp) (env : Sg) (st : S) (q : List Key × List D) (st' : S), Good K dk H0 F0 F σ H env st → f env st = some (q, st') →
  ∀ Q : VK, (∀ p vs F' H', Ext dk F H F' H' → Good K dk H0 F0 F' σ H' env st' → H p = none → F'.out p → H' p = some (.dK (q.1.zip vs)) → q.1.length = vs.length → Rps K dk F' vs q.2 → Q (.ref p) H') → te σ H Q
def frzK (f : MK) : ME := fun env st => (f env st).map fun p => (.dic p.1.1 p.1.2, p.2)
theorem ImK.im {te : TE} {f : MK} (h : ImK K te f) : Im K te (frzK f) := fun dk H0 F0 F σ H env st d st' g e Q q => by
  obtain ⟨⟨⟨ks, ds⟩, s1⟩, h1, h2⟩ := mpd e
  cases h2
  refine h dk H0 F0 F σ H env st _ s1 g h1 Q fun p vs F' H' x g' hp fp hl hl2 r => ?_
  have nd := g.nedk hp
  have le : Le F' (F'.up p (.dK (ks.zip vs))) := Le.new fp.1
  exact q (.ref p) _ H' (x.freeze hp fp) (g'.freeze hl fp (g.fresh0 hp) nd.1 nd.2 (g.noown hp)) (.dic Fz.up_same hl2 (r.mono le))
theorem ImK.w {te : TE} {f : MK} (h : ImK K te f) : ImW K te (frzK f) := h.im.w
def ownK (i : Nat) (f : MK) : MS := fun env st => (f env st).map fun p => (.nx (env.set i (.own (.dic p.1.1, p.1.2))), p.2)
theorem is_ownK {te : TE} {f : MK} (i : Nat) (h : ImK K te f) : ImS K (tAsg te (gName i)) (ownK i f) := fun dk H0 F0 F σ H env st fl st' g e E hd => by
  obtain ⟨⟨⟨ks, ds⟩, s1⟩, e1, e⟩ := mpd e
  cases e
  refine h dk H0 F0 F σ H env st _ s1 g e1 _ fun p vs F1 H1 x1 g1 hp fp hl hl2 r => ?_
  have nd := g.nedk hp
  exact hd F1 _ H1 x1.f (g1.setO (ds := (.dic ks, ds)) ⟨hl, hl2⟩ fp (g.fresh0 hp) nd.1 nd.2 (g.noown hp) r)
/-! {k: v, ..} -/
def mrgL {α : Type} : List Key → List α → List (Key × α) → List Key × List α
  | ks, xs, [] => (ks, xs)
  | ks, xs, (k, x) :: r => mrgL (putKs ks k) (putVs ks xs k x) r
theorem mrg_zip : ∀ (kvs : List (Key × V)) (ks : List Key) (vs : List V), ks.length = vs.length → mergeK (ks.zip vs) kvs = (mrgL ks vs kvs).1.zip (mrgL ks vs kvs).2 ∧ (mrgL ks vs kvs).1.length = (mrgL ks vs kvs).2.length
  | [], ks, vs, h => ⟨rfl, h⟩
  | (k, v) :: r, ks, vs, h => by
    have ih := mrg_zip r (putKs ks k) (putVs ks vs k v) (put_len h)
    rw [← put_zip h] at ih
    exact ih
inductive Rpk (K : Fg) (dk : Dk) (F : Fz) : List (Key × V) → List (Key × D) → Prop
  | nil : Rpk K dk F [] []
  | cons {k : Key} {v : V} {d : D} {kvs : List (Key × V)} {kds : List (Key × D)} : Rp K dk F v d → Rpk K dk F kvs kds → Rpk K dk F ((k, v) :: kvs) ((k, d) :: kds)
theorem Rpk.mono (le : Le F F') : ∀ {kvs : List (Key × V)} {kds : List (Key × D)}, Rpk K dk F kvs kds → Rpk K dk F' kvs kds
  | _, _, .nil => .nil
  | _, _, .cons a b => .cons (a.mono le) (Rpk.mono le b)
theorem Rpk.length : ∀ {kvs : List (Key × V)} {kds : List (Key × D)}, Rpk K dk F kvs kds → kvs.length = kds.length
  | _, _, .nil => rfl
  | _, _, .cons a b => by simp [Rpk.length b]
theorem mrg_rps : ∀ {kvs : List (Key × V)} {kds : List (Key × D)} (ks : List Key) {vs : List V} {ds : List D}, Rpk K dk F kvs kds → Rps K dk F vs ds → (mrgL ks vs kvs).1 = (mrgL ks ds kds).1 ∧ Rps K dk F (mrgL ks vs kvs).2 (mrgL ks ds kds).2
  | _, _, ks, _, _, .nil, r => ⟨rfl, r⟩
  | _, _, ks, _, _, .cons a b, r => mrg_rps (putKs ks _) b (putVs_rps a r)
abbrev MP := Sg → S → Option (List (Key × D) × S)
def ImP [WW] (K : Fg) (trs : List (TE × TE)) (f : MP) : Prop := ∀ (dk : Dk) (H0 : Hp) (F0 F : Fz) (σ : L2.St) (H : Hp) (env : Sg) (st : S) (kds : List (Key × D)) (st' : S), Good K dk H0 F0 F σ H env st → f env st = some (kds, st') →
  ∀ Q : List (V × V) → Hp → Prop, (∀ kvs F' H', Ext dk F H F' H' → Good K dk H0 F0 F' σ H' env st' → Rpk K dk F' kvs kds → Q (kvs.map fun kv => (kV kv.1, kv.2)) H') → tPairs trs σ H Q
def pNil : MP := fun _ st => some ([], st)
theorem ip_nil : ImP K [] pNil := fun dk H0 F0 F σ H env st kds st' g e Q q => by
  cases e
  exact q [] F H (Ext.refl F H) g .nil
def pCons (fk fv : ME) (r : MP) : MP := fun env st => (fk env st).bind fun p => (keyOf p.1).bind fun k => (fv env p.2).bind fun q => (r env q.2).map fun z => ((k, q.1) :: z.1, z.2)
theorem ip_cons {tk tv : TE} {trs : List (TE × TE)} {fk fv : ME} {r : MP} (hk : Im K tk fk) (hv : Im K tv fv) (hr : ImP K trs r) : ImP K ((tk, tv) :: trs) (pCons fk fv r) := fun dk H0 F0 F σ H env st kds st' g e Q q => by
  obtain ⟨⟨y, s1⟩, e1, e⟩ := bnd e
  obtain ⟨k, e2, e⟩ := bnd e
  obtain ⟨⟨d, s2⟩, e3, e⟩ := bnd e
  obtain ⟨⟨kds', s3⟩, e4, e⟩ := mpd e
  cases e
  refine hk dk H0 F0 F σ H env st y s1 g e1 _ fun v F1 H1 x1 g1 r1 => ?_
  refine hv dk H0 F0 F1 σ H1 env s1 d s2 g1 e3 _ fun u F2 H2 x2 g2 r2 => ?_
  refine hr dk H0 F0 F2 σ H2 env s2 kds' _ g2 e4 _ fun kvs F3 H3 x3 g3 r3 => ?_
  have := q ((k, u) :: kvs) F3 H3 (x1.trans (x2.trans x3)) g3 (.cons (r2.mono x3.f) r3)
  rw [List.map_cons] at this
  have hv : v = kV k := keyOf_rw (H := H1) (.rp r1) e2
  rw [hv]
  exact this
def dispK (f : MP) : MK := fun env st => (f env st).bind fun p => if p.1.length ≤ 15 then some (mrgL [] [] p.1, p.2) else none
theorem ik_disp {trs : List (TE × TE)} {f : MP} (h : ImP K trs f) : ImK K (tDisp trs) (dispK f) := fun dk H0 F0 F σ H env st kd st' g e Q q => by
  obtain ⟨⟨kds, s1⟩, e1, e⟩ := bnd e
  dsimp only at e
  split at e
  · rename_i hz
    cases e
    intro p hp
    have nd := g.nedk hp
    have px : Px F H F (upd H p (.dK [])) := Px.lay g.wd.sub hp
    have fp := g.wd.out hp
    refine h dk H0 F0 F σ _ env st kds _ (g.px px) e1 _ fun kvs F1 H1 x1 g1 r1 => ?_
    have h1 : H1 p = some (.dK []) := x1.h _ _ upd_same nd.1 nd.2 (.inl fp.2)
    have f1 : F1.out p := x1.out fp (nn upd_same)
    have no := g.noown hp
    refine ⟨h1, kvs, rfl, by rw [r1.length]; exact hz, ?_⟩
    have g2 : Good K dk H0 F0 F1 σ (upd H1 p (.dK (mergeK [] kvs))) env st' := g1.mutT h1 f1 (g.fresh0 hp) nd.1 nd.2 no
    obtain ⟨z1, z2⟩ := mrg_zip kvs [] [] rfl
    obtain ⟨y1, y2⟩ := mrg_rps (K := K) (dk := dk) (F := F1) [] r1 Rps.nil
    refine q p (mrgL [] [] kvs).2 F1 _ ?_ g2 hp f1 (by rw [upd_same, ← y1]; exact congrArg (fun z => some (HO.dK z)) z1) (by rw [← y1]; exact z2) y2
    exact (px.ext.trans x1).upd hp
  · cases e
/-- {} -/
def newK : MK := fun env st => some (([], []), st)
theorem ik_new : ImK K tDNewK newK := fun dk H0 F0 F σ H env st kd st' g e Q q => by
  cases e
  intro p hp
  have px : Px F H F (upd H p (.dK [])) := Px.lay g.wd.sub hp
  exact q p [] F _ px.ext (g.px px) hp (g.wd.out hp) upd_same rfl .nil
/-- dict(d) -/
def cpyK (f : ME) : MK := fun env st => (f env st).bind fun p => (isDicD (dr p.2 p.1)).map fun q => (q, p.2)
theorem ik_cpy {te : TE} {f : ME} (h : ImW K te f) : ImK K (tCB (fun xs H Q => ∃ (a : Addr) (kvs : List (Key × V)), xs = [.ref a] ∧ Rd H a (.dK kvs) ∧ ∀ p, H p = none → Q (.ref p) (upd H p (.dK kvs))) (tCons te tNil)) (cpyK f) := fun dk H0 F0 F σ H env st kd st' g e Q q => by
  obtain ⟨⟨x, s1⟩, h1, e⟩ := bnd e
  obtain ⟨⟨ks, ds⟩, h2, e⟩ := mpd e
  cases e
  refine h dk H0 F0 F σ H env st x s1 g h1 _ fun v F1 H1 x1 g1 r1 => ?_
  have r3 := r1.dr g1.wd
  rw [isDicD_eq h2] at r3
  obtain ⟨p, vs, rfl, hr, hl, r⟩ := r3.d g1.wd.sub
  refine ⟨p, _, rfl, hr, fun p' hp => ?_⟩
  have px : Px F1 H1 F1 (upd H1 p' (.dK (ks.zip vs))) := Px.lay g1.wd.sub hp
  exact q p' vs F1 _ (x1.trans px.ext) (g1.px px) (x1.back hp) (g1.wd.out hp) upd_same hl r
end
end MD

set_option Elab.async false
set_option linter.all false
set_option maxRecDepth 100000
set_option maxHeartbeats 1000000
namespace MD
open PySem L2
variable {ww : WW}

/-! ### things of the store, changed -/
def S.put (st : S) (n : Nat) (o : Ob) : S := { st with ob := st.ob.set n o }
section
variable {K : Fg} {dk : Dk} {F F' F0 : Fz} {H H' H0 : Hp} {σ σ' : L2.St} {env env' : Sg} {st st' st'' : S}
theorem mu_lt {n : Nat} {a : Addr} (h : F.mu[n]? = some a) : n < F.mu.length := by
  by_cases hl : n < F.mu.length
  · exact hl
  · rw [List.getElem?_eq_none (by omega)] at h; cases h
theorem Wd.ndk (w : Wd K dk F H st) {a : Addr} (h : a ∈ F.mu) : a ≠ dk.1 ∧ a ≠ dk.2 := ⟨fun z => w.f1.2 (z ▸ h), fun z => w.f2.2 (z ▸ h)⟩
theorem Wd.put {n : Nat} {a : Addr} {o' : HO} {ob' : Ob} (w : Wd K dk F H st) (hn : F.mu[n]? = some a) (ho : ObAt K dk F (L2.upd H a o') a ob') : Wd K dk F (L2.upd H a o') (st.put n ob') := by
  have hm := List.mem_of_getElem? hn
  obtain ⟨n1, n2⟩ := w.ndk hm
  have hln := mu_lt hn
  obtain ⟨fa, _⟩ := w.ob n a _ hn (List.getElem?_eq_getElem (by rw [← w.ml]; exact hln))
  refine ⟨fun b u e => ?_, by rw [upd_ne n1.symm]; exact w.d1, by rw [upd_ne n2.symm]; exact w.d2, w.f1, w.f2, w.ne, by rw [w.ml]; simp [S.put], w.nd, fun m b u h1 h2 => ?_⟩
  · rw [upd_ne (ne_of_none e fa)]; exact w.sub b u e
  · by_cases hmn : n = m
    · subst hmn
      rw [hn] at h1; cases h1
      have h2' : (st.ob.set n ob')[n]? = some u := h2
      rw [List.getElem?_set_self (by rw [← w.ml]; exact hln)] at h2'
      cases h2'
      exact ⟨fa, ho⟩
    · have h2' : (st.ob.set n ob')[m]? = some u := h2
      rw [List.getElem?_set_ne hmn] at h2'
      obtain ⟨q1, q2⟩ := w.ob m b u h1 h2'
      have nb : b ≠ a := fun z => hmn (by
        subst z
        exact (List.getElem?_inj hln w.nd).mp (hn.trans h1.symm))
      exact ⟨q1, q2.keep (fun _ e => by rw [upd_ne nb]; exact e) (Le.refl F)⟩
theorem Ext.put {n : Nat} {a : Addr} {o o' : HO} (x : Ext dk F0 H0 F H) (hn : F.mu[n]? = some a) (ha : H a = some o) (nf : ¬ Fro o) (nf' : ¬ Fro o') : Ext dk F0 H0 F (L2.upd H a o') := by
  have hm := List.mem_of_getElem? hn
  refine ⟨fun b u e n1 n2 n3 => ?_, x.f, x.n, fun b e z => ?_, x.u, fun b u e f => x.k b u (updK nf' b u e f) f⟩
  · have e' := x.h b u e n1 n2 n3
    by_cases nb : b = a
    · subst nb
      rw [ha] at e'; cases e'
      rcases n3 with n3 | n3
      · rcases x.u b hm with q | q
        · exact absurd q n3
        · rw [q] at e; cases e
      · exact absurd n3 nf
    · rw [upd_ne nb]; exact e'
  · by_cases nb : b = a
    · subst nb; rw [upd_same] at z; cases z
    · rw [upd_ne nb] at z; exact x.m b e z
theorem Good.put {n : Nat} {a : Addr} {o o' : HO} {ob' : Ob} (g : Good K dk H0 F0 F σ H env st) (hn : F.mu[n]? = some a) (ha : H a = some o) (nf : ¬ Fro o) (ho : ObAt K dk F (upd H a o') a ob')
    (nf' : ¬ Fro o' := by rintro ⟨_, _, z⟩; cases z) : Good K dk H0 F0 F σ (upd H a o') env (st.put n ob') := by
  refine ⟨g.wd.put hn ho, g.ext.put hn ha nf nf', g.len, fun i s e => ?_, g.dis⟩
  have q := g.sl i s e
  cases s with
  | un => trivial
  | val d => exact q
  | cap o => cases o <;> exact q
  | own ds =>
    obtain ⟨p, vs, h1, h2, h3, h4⟩ := q
    have np : p ≠ a := fun z => h3.2 (z ▸ List.mem_of_getElem? hn)
    exact ⟨p, vs, h1, h2.keep fun o e => by rw [upd_ne np]; exact e, h3, h4⟩
/-! new things of the store -/
def Fz.ad (F : Fz) (p : Addr) : Fz := ⟨F.hp, F.mu ++ [p]⟩
def S.ad (st : S) (o : Ob) : S := { st with ob := st.ob ++ [o] }
theorem Le.ad {p : Addr} : Le F (F.ad p) := ⟨Lh.refl _, [p], rfl⟩
theorem Good.ad {p : Addr} {o : HO} {ob : Ob} (g : Good K dk H0 F0 F σ H env st) (hp : H p = some o) (fp : F.out p) (h0 : H0 p = none) (n1 : p ≠ dk.1) (n2 : p ≠ dk.2)
    (no : ∀ (i : Nat) (ds : Own), env[i]? = some (.own ds) → σ[i]? ≠ some (some (.ref p))) (ho : ObAt K dk (F.ad p) H p ob) : Good K dk H0 F0 (F.ad p) σ H env (st.ad ob) := by
  have le : Le F (F.ad p) := Le.ad
  have w := g.wd
  refine ⟨⟨w.sub, w.d1, w.d2, ⟨w.f1.1, fun z => ?_⟩, ⟨w.f2.1, fun z => ?_⟩, w.ne, ?_, ?_, fun n a u h1 h2 => ?_⟩, ⟨g.ext.h, g.ext.f.trans le, g.ext.n, g.ext.m, fun a ha => ?_, g.ext.k⟩, g.len, fun i s e => ?_, g.dis⟩
  · rcases List.mem_append.mp z with z | z
    · exact w.f1.2 z
    · exact n1 (List.mem_singleton.mp z).symm
  · rcases List.mem_append.mp z with z | z
    · exact w.f2.2 z
    · exact n2 (List.mem_singleton.mp z).symm
  · simp [Fz.ad, S.ad, w.ml]
  · show (F.mu ++ [p]).Nodup
    rw [List.nodup_append]
    refine ⟨w.nd, by simp, fun a ha b hb z => fp.2 ?_⟩
    rw [List.mem_singleton.mp hb] at z
    exact z ▸ ha
  · have h1' : (F.mu ++ [p])[n]? = some a := h1
    have h2' : (st.ob ++ [ob])[n]? = some u := h2
    by_cases hl : n < F.mu.length
    · rw [List.getElem?_append_left hl] at h1'
      rw [List.getElem?_append_left (by rw [← w.ml]; exact hl)] at h2'
      obtain ⟨q1, q2⟩ := w.ob n a u h1' h2'
      exact ⟨q1, q2.keep (fun _ e => e) le⟩
    · have hn : n = F.mu.length := by
        have := mu_lt h1
        simp [Fz.ad] at this
        omega
      subst hn
      rw [List.getElem?_append_right (Nat.le_refl _), Nat.sub_self] at h1'
      rw [w.ml, List.getElem?_append_right (Nat.le_refl _), Nat.sub_self] at h2'
      cases h1'; cases h2'
      exact ⟨fp.1, ho⟩
  · have ha' : a ∈ F.mu ++ [p] := ha
    rcases List.mem_append.mp ha' with z | z
    · exact g.ext.u a z
    · rw [List.mem_singleton.mp z]; exact .inr h0
  · have q := g.sl i s e
    cases s with
    | un => trivial
    | val d => obtain ⟨v, h1, h2⟩ := q; exact ⟨v, h1, h2.mono le⟩
    | cap o =>
      cases o with
      | none => exact ⟨q.1, fun c y hc => le.h _ _ (q.2 c y hc)⟩
      | some ds => exact Rps.mono le q
    | own ds =>
      obtain ⟨r, vs, h1, h2, h3, h4, h5, h6, h7⟩ := q
      have nr : r ≠ p := fun z => no i ds e (by rw [← z]; exact join_eq h1)
      refine ⟨r, vs, h1, h2, ⟨h3.1, fun z => ?_⟩, h4, h5, h6, h7.mono le⟩
      rcases List.mem_append.mp z with z | z
      · exact h3.2 z
      · exact nr (List.mem_singleton.mp z)
theorem Ext.ad {p : Addr} (x : Ext dk F H F' H') (hp : H p = none) : Ext dk F H (F'.ad p) H' :=
  ⟨x.h, x.f.trans Le.ad, x.n, x.m, fun a ha => by
    have ha' : a ∈ F'.mu ++ [p] := ha
    rcases List.mem_append.mp ha' with z | z
    · exact x.u a z
    · rw [List.mem_singleton.mp z]; exact .inr hp, x.k⟩
theorem ad_at (w : Wd K dk F H st) (p : Addr) : (F.ad p).mu[st.ob.length]? = some p := by
  show (F.mu ++ [p])[st.ob.length]? = some p
  rw [← w.ml, List.getElem?_append_right (Nat.le_refl _), Nat.sub_self]; rfl
/-- a new list, a new dict for the store -/
def stoL (f : MA) : ME := fun env st => (f env st).map fun p => (.ref p.2.ob.length, p.2.ad (.lst p.1))
theorem ImF.sto {te : TE} {f : MA} (h : ImF K te f) : Im K te (stoL f) := fun dk H0 F0 F σ H env st d st' g e Q q => by
  obtain ⟨⟨ds, s1⟩, h1, h2⟩ := mpd e
  cases h2
  refine h dk H0 F0 F σ H env st ds s1 g h1 Q fun p vs F' H' x g' hp fp hl r => ?_
  have nd := g.nedk hp
  exact q (.ref p) _ H' (x.ad hp) (g'.ad hl fp (g.fresh0 hp) nd.1 nd.2 (g.noown hp) (.lst hl (r.mono Le.ad))) (.ref (ad_at g'.wd p))
def stoK (f : MK) : ME := fun env st => (f env st).map fun p => (.ref p.2.ob.length, p.2.ad (.dic false p.1.1 p.1.2))
theorem ImK.sto {te : TE} {f : MK} (h : ImK K te f) : Im K te (stoK f) := fun dk H0 F0 F σ H env st d st' g e Q q => by
  obtain ⟨⟨⟨ks, ds⟩, s1⟩, h1, h2⟩ := mpd e
  cases h2
  refine h dk H0 F0 F σ H env st _ s1 g h1 Q fun p vs F' H' x g' hp fp hl hl2 r => ?_
  have nd := g.nedk hp
  exact q (.ref p) _ H' (x.ad hp) (g'.ad hl fp (g.fresh0 hp) nd.1 nd.2 (g.noown hp) (.dic hl hl2 (r.mono Le.ad))) (.ref (ad_at g'.wd p))
/-! e.append(x), e[k] = x, of a thing of the store -/
def refOf : D → Option Nat
  | .ref n => some n
  | _ => none
theorem refOf_eq {d : D} {n : Nat} (h : refOf d = some n) : d = .ref n := by
  cases d <;> first | (cases h; rfl) | cases h
def lstAt (st : S) (n : Nat) : Option (List D) := match st.ob[n]? with
  | some (.lst ds) => some ds
  | _ => none
theorem lstAt_eq {n : Nat} {ds : List D} (h : lstAt st n = some ds) : st.ob[n]? = some (.lst ds) := by
  unfold lstAt at h
  split at h
  · rename_i e; cases h; exact e
  · cases h
def dicAt (st : S) (n : Nat) : Option (List Key × List D) := match st.ob[n]? with
  | some (.dic false ks ds) => some (ks, ds)
  | _ => none
theorem dicAt_eq {n : Nat} {q : List Key × List D} (h : dicAt st n = some q) : st.ob[n]? = some (.dic false q.1 q.2) := by
  unfold dicAt at h
  split at h
  · rename_i e; cases h; exact e
  · cases h
theorem Wd.lstAt {n : Nat} {a : Addr} {ds : List D} (w : Wd K dk F H st) (hn : F.mu[n]? = some a) (h : lstAt st n = some ds) : ∃ vs, H a = some (.lst vs) ∧ Rps K dk F vs ds := by
  obtain ⟨_, q⟩ := w.ob n a _ hn (lstAt_eq h)
  cases q with
  | lst h r => exact ⟨_, h, r⟩
theorem Wd.dicAt {n : Nat} {a : Addr} {q : List Key × List D} (w : Wd K dk F H st) (hn : F.mu[n]? = some a) (h : dicAt st n = some q) : ∃ vs, H a = some (.dK (q.1.zip vs)) ∧ q.1.length = vs.length ∧ Rps K dk F vs q.2 := by
  obtain ⟨_, q⟩ := w.ob n a _ hn (dicAt_eq h)
  cases q with
  | dic h l r => exact ⟨_, h, l, r⟩
theorem Rp.refn {v : V} {n : Nat} (r : Rp K dk F v (.ref n)) : ∃ a, v = .ref a ∧ F.mu[n]? = some a := by
  cases r with
  | ref h => exact ⟨_, rfl, h⟩
def sappM (fo f : ME) : MS := fun env st => (fo env st).bind fun o => (refOf o.1).bind fun n => (lstAt o.2 n).bind fun _ => (f env o.2).bind fun p => (lstAt p.2 n).bind fun ds => if ds.length < sizeLine then some (.nx env, p.2.put n (.lst (ds ++ [p.1]))) else none
theorem is_sapp {to te : TE} {fo f : ME} (ho : Im K to fo) (h : Im K te f) : ImS K (tDrop (tBM K "list" rAppend to (tCons te tNil))) (sappM fo f) := fun dk H0 F0 F σ H env st fl st' g e E hd => by
  obtain ⟨⟨x, s1⟩, h1, e⟩ := bnd e
  obtain ⟨n, h2, e⟩ := bnd e
  obtain ⟨_, h0, e⟩ := bnd e
  obtain ⟨⟨d, s2⟩, h3, e⟩ := bnd e
  obtain ⟨ds, h4, e⟩ := bnd e
  split at e
  · rename_i hz
    cases e
    refine ho dk H0 F0 F σ H env st x s1 g h1 _ fun v F1 H1 x1 g1 r1 => ?_
    have hx : x = .ref n := refOf_eq h2
    subst hx
    obtain ⟨a, rfl, ha⟩ := r1.refn
    obtain ⟨vs0, hv0, _⟩ := g1.wd.lstAt ha h0
    refine ⟨.inl ⟨rfl, vs0, SqL.of hv0⟩, ?_⟩
    refine h dk H0 F0 F1 σ H1 env s1 d s2 g1 h3 _ fun u F2 H2 x2 g2 r2 => ?_
    have ha2 := x2.f.at ha
    obtain ⟨vs, hv, rv⟩ := g2.wd.lstAt ha2 h4
    refine ⟨a, vs, u, rfl, rfl, hv, by rw [rv.length]; exact hz, ?_⟩
    exact hd F2 σ _ (x1.f.trans x2.f) (g2.put ha2 hv (by rintro ⟨_, _, z⟩; cases z) (.lst upd_same (rv.append (Rps.one r2))))
  · cases e
def sputM (fo fk fv : ME) : MS := fun env st => (fv env st).bind fun p => (fo env p.2).bind fun o => (refOf o.1).bind fun n => (fk env o.2).bind fun q => (keyOf q.1).bind fun k => (dicAt q.2 n).bind fun z => if z.2.length < sizeLine then some (.nx env, q.2.put n (.dic false (putKs z.1 k) (putVs z.1 z.2 k p.1))) else none
theorem is_sput {to ty tv : TE} {fo fk fv : ME} (ho : Im K to fo) (hk : ImW K ty fk) (hv : Im K tv fv) : ImS K (sDPut to ty tv) (sputM fo fk fv) := fun dk H0 F0 F σ H env st fl st' g e E hd => by
  obtain ⟨⟨d, s1⟩, h1, e⟩ := bnd e
  obtain ⟨⟨x, s2⟩, h2, e⟩ := bnd e
  obtain ⟨n, h3, e⟩ := bnd e
  obtain ⟨⟨y, s3⟩, h4, e⟩ := bnd e
  obtain ⟨k, h5, e⟩ := bnd e
  obtain ⟨⟨ks, ds⟩, h6, e⟩ := bnd e
  split at e
  · rename_i hz
    cases e
    refine hv dk H0 F0 F σ H env st d s1 g h1 _ fun v F1 H1 x1 g1 r1 => ?_
    refine ho dk H0 F0 F1 σ H1 env s1 x s2 g1 h2 _ fun u F2 H2 x2 g2 r2 => ?_
    have hx : x = .ref n := refOf_eq h3
    subst hx
    obtain ⟨a, rfl, ha⟩ := r2.refn
    refine hk dk H0 F0 F2 σ H2 env s2 y s3 g2 h4 _ fun w F3 H3 x3 g3 r3 => ?_
    have ha3 := x3.f.at ha
    obtain ⟨vs, hvs, hl, rv⟩ := g3.wd.dicAt ha3 h6
    refine ⟨a, _, rfl, .inl ⟨ks.zip vs, k, hvs, keyOf_rw r3.w h5, ?_, rfl⟩, ?_⟩
    · have := rv.length
      rw [List.length_zip, hl, Nat.min_self, this]; exact hz
    · refine hd F3 σ _ (x1.f.trans (x2.f.trans x3.f)) (g3.put ha3 hvs (by rintro ⟨_, _, z⟩; cases z) ?_)
      exact .dic (by rw [upd_same]; exact congrArg (fun z => some (HO.dK z)) (put_zip hl)) (put_len hl) (putVs_rps (r1.mono (x2.f.trans x3.f)) rv)
  · cases e
/-! ### locks -/
theorem Good.lock {a : Addr} {od : Obj} {u : HO} (g : Good K dk H0 F0 F σ H env st) (no : ∀ (i : Nat) (ds : Own), env[i]? = some (.own ds) → σ[i]? ≠ some (some (.ref a))) (w : Wd K dk F (upd H a (.frz od u)) st') :
    Good K dk (upd H0 a (.frz od u)) F F σ (upd H a (.frz od u)) env st' := by
  refine ⟨w, ⟨fun b o e n1 n2 n3 => ?_, Le.refl F, fun _ h _ => h, fun b e z => ?_, fun _ h => .inl h, fun b o e f => ?_⟩, g.len, fun i s e => ?_, g.dis⟩
  · by_cases nb : b = a
    · subst nb; rw [upd_same] at e ⊢; exact e
    · rw [upd_ne nb] at e ⊢
      exact g.ext.h b o e n1 n2 (n3.imp (fun n3 z => n3 (g.ext.f.mem z)) id)
  · by_cases nb : b = a
    · subst nb; rw [upd_same] at z; cases z
    · rw [upd_ne nb] at e z; exact g.ext.m b e z
  · by_cases nb : b = a
    · subst nb; rw [upd_same] at e ⊢; exact e
    · rw [upd_ne nb] at e ⊢; exact g.ext.k b o e f
  · have q := g.sl i s e
    cases s with
    | un => trivial
    | val d => exact q
    | cap o => cases o <;> exact q
    | own ds =>
      obtain ⟨p, vs, h1, h2, h3, h4, h5⟩ := q
      have np : p ≠ a := fun z => no i ds e (by rw [← z]; exact join_eq h1)
      exact ⟨p, vs, h1, h2.keep fun o e => by rw [upd_ne np]; exact e, h3, by rw [upd_ne np]; exact h4, h5⟩
theorem Ext.unlock {a : Addr} {od : Obj} {u : HO} (x : Ext dk F0 H0 F H) (ha : H a = some u) (nf : ¬ Fro u) (y : Ext dk F (L2.upd H0 a (.frz od u)) F' H') : Ext dk F0 H0 F' (L2.upd H' a u) := by
  refine ⟨fun b o e n1 n2 n3 => ?_, x.f.trans y.f, fun b h1 h2 => ?_, fun b e z => ?_, fun b h => ?_, fun b o e f => ?_⟩
  · by_cases nb : b = a
    · subst nb
      have e' := x.h b o e n1 n2 n3
      rw [ha] at e'; rw [upd_same]; exact e'
    · rw [upd_ne nb]
      refine y.h b o (by rw [upd_ne nb]; exact e) n1 n2 (n3.imp (fun n3 z => ?_) id)
      rcases x.u b z with q | q
      · exact n3 q
      · rw [q] at e; cases e
  · refine y.n b (x.n b h1 h2) ?_
    by_cases nb : b = a
    · subst nb; rw [upd_same]; exact fun z => nomatch z
    · rw [upd_ne nb]; exact h2
  · by_cases nb : b = a
    · subst nb; rw [upd_same] at z; cases z
    · rw [upd_ne nb] at z; exact y.m b (by rw [upd_ne nb]; exact e) z
  · rcases y.u b h with q | q
    · exact x.u b q
    · refine .inr ?_
      by_cases nb : b = a
      · subst nb; rw [upd_same] at q; cases q
      · rw [upd_ne nb] at q; exact q
  · by_cases nb : b = a
    · subst nb; rw [upd_same] at e; cases e; exact absurd f nf
    · rw [upd_ne nb] at e
      have := y.k b o e f
      rw [upd_ne nb] at this; exact this
theorem Good.unlock {a : Addr} {od : Obj} {u : HO} (g : Good K dk H0 F0 F σ H env st) (ha : H a = some u) (nf : ¬ Fro u) (g' : Good K dk (upd H0 a (.frz od u)) F F' σ' H' env' st') (w : Wd K dk F' (upd H' a u) st'') : Good K dk H0 F0 F' σ' (upd H' a u) env' st'' := by
  refine ⟨w, g.ext.unlock ha nf g'.ext, g'.len, fun i s e => ?_, g'.dis⟩
  have q := g'.sl i s e
  cases s with
  | un => trivial
  | val d => exact q
  | cap o => cases o <;> exact q
  | own ds =>
    obtain ⟨p, vs, h1, h2, h3, h4, h5⟩ := q
    have np : p ≠ a := fun z => by rw [z, upd_same] at h4; cases h4
    exact ⟨p, vs, h1, h2.keep fun o e => by rw [upd_ne np]; exact e, h3, by rw [upd_ne np] at h4; exact h4, h5⟩
/-- what is locked stays -/
theorem Good.stays {a : Addr} {od : Obj} {u : HO} (g : Good K dk H0 F0 F σ H env st) (ha : H a = some (.frz od u)) (g' : Good K dk H0 F0 F' σ' H' env' st') : H' a = some (.frz od u) := by
  have n1 : a ≠ dk.1 := fun z => by rw [z, g.wd.d1] at ha; cases ha
  have n2 : a ≠ dk.2 := fun z => by rw [z, g.wd.d2] at ha; cases ha
  exact g'.ext.h _ _ (g.ext.k _ _ ha ⟨_, _, rfl⟩) n1 n2 (.inr ⟨_, _, rfl⟩)
theorem Wd.lockF {a : Addr} {od : Obj} {kvs : List (Key × V)} (w : Wd K dk F H st) (ha : F a = some (.dK kvs)) : Wd K dk F (L2.upd H a (.frz od (.dK kvs))) st := by
  have n1 : a ≠ dk.1 := fun z => by rw [z, w.f1.1] at ha; cases ha
  have n2 : a ≠ dk.2 := fun z => by rw [z, w.f2.1] at ha; cases ha
  refine ⟨fun b u e => ?_, by rw [upd_ne n1.symm]; exact w.d1, by rw [upd_ne n2.symm]; exact w.d2, w.f1, w.f2, w.ne, w.ml, w.nd, fun m b u h1 h2 => ?_⟩
  · by_cases nb : b = a
    · subst nb; rw [ha] at e; cases e; rw [upd_same]; exact .inr ⟨od, kvs, rfl, rfl⟩
    · rw [upd_ne nb]; exact w.sub b u e
  · obtain ⟨q1, q2⟩ := w.ob m b u h1 h2
    have nb : b ≠ a := fun z => by rw [z, ha] at q1; cases q1
    exact ⟨q1, q2.keep (fun _ e => by rw [upd_ne nb]; exact e) (Le.refl F)⟩
theorem Wd.unlockF {a : Addr} {kvs : List (Key × V)} (w : Wd K dk F H st) (ha : F a = some (.dK kvs)) : Wd K dk F (L2.upd H a (.dK kvs)) st := by
  have n1 : a ≠ dk.1 := fun z => by rw [z, w.f1.1] at ha; cases ha
  have n2 : a ≠ dk.2 := fun z => by rw [z, w.f2.1] at ha; cases ha
  refine ⟨fun b u e => ?_, by rw [upd_ne n1.symm]; exact w.d1, by rw [upd_ne n2.symm]; exact w.d2, w.f1, w.f2, w.ne, w.ml, w.nd, fun m b u h1 h2 => ?_⟩
  · by_cases nb : b = a
    · subst nb; rw [ha] at e; cases e; rw [upd_same]; exact .inl rfl
    · rw [upd_ne nb]; exact w.sub b u e
  · obtain ⟨q1, q2⟩ := w.ob m b u h1 h2
    have nb : b ≠ a := fun z => by rw [z, ha] at q1; cases q1
    exact ⟨q1, q2.keep (fun _ e => by rw [upd_ne nb]; exact e) (Le.refl F)⟩
/-! ### loops -/
/-- a loop over a walk that is good as long as all is good -/
theorem for_core {g : TG} {tb : TS} {t : MG} {b : MS} {is : List Nat} {ds : List D} {fl : Fl} {J : It} {E : Ends} (hg : ImG K g t is) (hb : ImS K tb b) (gd : Good K dk H0 F0 F σ H env st)
    (sd : ∀ (F2 : Fz) (σ2 : L2.St) (H2 : Hp) (env2 : Sg) (st2 : S), Le F F2 → Good K dk H0 F0 F2 σ2 H2 env2 st2 → ∀ i : Nat, (∀ d, ds[i]? = some d → J.go i H2 ∧ ∀ x H3, J.yld i H2 x H3 → ∃ F3, Px F2 H2 F3 H3 ∧ Rp K dk F3 x d) ∧ (ds.length ≤ i → J.stop i H2))
    (e : forL t b ds env st = some (fl, st')) (hd : Dn K dk H0 F0 F E st' fl) : ∀ (R : Prop), ((∃ W : Nat → Nat → L2.St → Hp → Prop, (∃ m, W 0 m σ H) ∧ ∀ i m σ H, W i m σ H → (J.stop i H ∧ E.nx σ H) ∨ (J.go i H ∧ ∃ Nx : L2.St → Hp → Prop, (∀ σ' H', Nx σ' H' → ∃ m', m' < m ∧ W (i + 1) m' σ' H') ∧ ∀ x H', J.yld i H x H' → g x σ H' fun σ2 H2 => tb ⟨Nx, E.rt, E.nx, Nx⟩ σ2 H2)) → R) → R := by
  intro R hR
  refine hR ?_
  let P : Nat → L2.St → Hp → Prop := fun i σ H => ∃ F2 env st, Le F F2 ∧ Good K dk H0 F0 F2 σ H env st ∧ forL t b (ds.drop i) env st = some (fl, st')
  refine ⟨fun i m σ H => m = ds.length - i ∧ i ≤ ds.length ∧ P i σ H, ⟨_, rfl, Nat.zero_le _, F, env, st, Le.refl F, gd, e⟩, ?_⟩
  rintro i m σ2 H2 ⟨rfl, hle, F2, env2, s2, le2, g2, e2⟩
  by_cases hlt : i < ds.length
  · have hdi : ds[i]? = some ds[i] := List.getElem?_eq_getElem hlt
    obtain ⟨hgo, hy⟩ := (sd F2 σ2 H2 env2 s2 le2 g2 i).1 _ hdi
    refine .inr ⟨hgo, P (i + 1), fun σ' H' hp => ⟨_, by omega, rfl, hlt, hp⟩, fun x H3 hx => ?_⟩
    obtain ⟨F3, px, rx⟩ := hy x H3 hx
    have g3 := g2.px px
    rw [List.drop_eq_getElem_cons hlt] at e2
    obtain ⟨env3, e3, e2⟩ := bnd e2
    obtain ⟨⟨fl3, s3⟩, e4, e2⟩ := bnd e2
    refine hg dk H0 F0 F3 σ2 H3 env2 s2 x _ env3 g3 rx e3 _ fun σ4 g4 _ => ?_
    refine hb dk H0 F0 F3 σ4 H3 env3 s2 fl3 s3 g4 e4 _ ?_
    cases fl3 with
    | nx e5 => exact fun F5 σ5 H5 l5 g5 => ⟨F5, e5, s3, (le2.trans px.f).trans l5, g5, e2⟩
    | ct e5 => exact fun F5 σ5 H5 l5 g5 => ⟨F5, e5, s3, (le2.trans px.f).trans l5, g5, e2⟩
    | bk e5 =>
      cases e2
      exact fun F5 σ5 H5 l5 g5 => hd F5 σ5 H5 ((le2.trans px.f).trans l5) g5
    | rt r =>
      cases e2
      exact hd
  · have ei : i = ds.length := by omega
    subst ei
    rw [List.drop_length] at e2
    cases e2
    exact .inl ⟨(sd F2 σ2 H2 env2 _ le2 g2 ds.length).2 (Nat.le_refl _), hd F2 σ2 H2 le2 g2⟩
end
end MD

set_option Elab.async false
set_option linter.all false
set_option maxRecDepth 100000
set_option maxHeartbeats 1000000
namespace MD
open PySem L2
variable {ww : WW}

/-- the walk goes through these data, while what stood stays -/
def StdyX [WW] (K : Fg) (dk : Dk) (F : Fz) (H : Hp) (J : It) (ds : List D) : Prop := ∀ (F1 : Fz) (H1 : Hp) (st : S), Le F F1 → Ext dk F H F1 H1 → Wd K dk F1 H1 st → ∀ i : Nat,
  (∀ d, ds[i]? = some d → J.go i H1 ∧ ∀ x H2, J.yld i H1 x H2 → ∃ F2, Px F1 H1 F2 H2 ∧ Rp K dk F2 x d) ∧ (ds.length ≤ i → J.stop i H1)
def ImIX [WW] (K : Fg) (wi : TI) (f : MI) : Prop := ∀ (dk : Dk) (H0 : Hp) (F0 F : Fz) (σ : L2.St) (H : Hp) (env : Sg) (st : S) (ds : List D) (st' : S), Good K dk H0 F0 F σ H env st → f env st = some (ds, st') →
  ∀ R : It → Hp → Prop, (∀ J F' H', Ext dk F H F' H' → Good K dk H0 F0 F' σ H' env st' → StdyX K dk F' H' J ds → R J H') → wi σ H R
section
variable {K : Fg} {dk : Dk} {F F' F0 : Fz} {H H' H0 : Hp} {σ σ' : L2.St} {env env' : Sg} {st st' st'' : S}
theorem if_compX {wi : TI} {g : TG} {tt : TT} {te : TE} {vs : List Nat} {it : MI} {t : MG} {c : MT} {f : ME} {is : List Nat} (hi : ImIX K wi it) (hg : ImG K g t is) (ht : ImT K tt c) (he : Im K te f) (hv : ∀ i ∈ is, i ∈ vs) :
    ImF K (tLc wi g tt te vs) (compM it t c f vs) := fun dk H0 F0 F σ H env st out st' gd e Q q => by
  obtain ⟨⟨ds, s1⟩, e1, e⟩ := bnd e
  replace e : (if ds.length ≤ sizeLine then compL t c f (wipeE env vs) ds s1 else none) = some (out, st') := e
  split at e
  · rename_i hz
    refine hi dk H0 F0 F σ H env st ds s1 gd e1 _ fun J F1 H1 x1 g1 sd Dn hD => ?_
    have hDH : H Dn = none := by
      cases w : H Dn with
      | none => rfl
      | some o => exact absurd hD (x1.m Dn (by rw [w]; exact fun z => nomatch z))
    have nd := g1.nedk hD
    have h0D := g1.fresh0 hD
    have noD := g1.noown hD
    have noW : ∀ (j : Nat) (es : Own), (wipeE env vs)[j]? = some (.own es) → (wipe σ vs)[j]? ≠ some (some (.ref Dn)) := fun j es e => by
      rcases wipeE_get e with z | ⟨z1, z2⟩
      · cases z
      · rw [wipe_off z2]; exact noD j es z1
    let P : Nat → Hp → Prop := fun i H => ∃ F2 st2 acc done rest, Le F1 F2 ∧ Ext dk F1 H1 F2 H ∧ Good K dk H0 F0 F2 (wipe σ vs) H (wipeE env vs) st2 ∧ H Dn = some (.lst acc) ∧ F2.out Dn ∧ acc.length ≤ i ∧ Rps K dk F2 acc done ∧
      compL t c f (wipeE env vs) (ds.drop i) st2 = some (rest, st') ∧ done ++ rest = out
    have px0 : Px F1 H1 F1 (upd H1 Dn (.lst [])) := Px.lay g1.wd.sub hD
    refine ⟨fun i m H => m = ds.length - i ∧ i ≤ ds.length ∧ P i H, ⟨_, rfl, Nat.zero_le _, F1, s1, [], [], out, Le.refl F1, px0.ext, (g1.wiped).px px0, upd_same, g1.wd.out hD, Nat.zero_le _, .nil, e, rfl⟩, ?_⟩
    rintro i m H2 ⟨rfl, hle, F2, s2, acc, done, rest, le2, x2, g2, hacc, f2, hal, racc, e2, eo⟩
    by_cases hlt : i < ds.length
    · have hdi : ds[i]? = some ds[i] := List.getElem?_eq_getElem hlt
      obtain ⟨hgo, hy⟩ := (sd F2 H2 s2 le2 x2 g2.wd i).1 _ hdi
      refine .inr ⟨hgo, P (i + 1), fun H' hp => ⟨_, by omega, rfl, hlt, hp⟩, fun x H3 hx => ?_⟩
      obtain ⟨F3, px, rx⟩ := hy x H3 hx
      have g3 := g2.px px
      rw [List.drop_eq_getElem_cons hlt] at e2
      obtain ⟨env3, e3, e2⟩ := bnd e2
      obtain ⟨⟨b, s4⟩, e4, e2⟩ := bnd e2
      refine hg dk H0 F0 F3 (wipe σ vs) H3 (wipeE env vs) s2 x _ env3 g3 rx e3 _ fun σ4 g4 tg => ?_
      have same : ∀ j : Nat, j ∉ vs → σ4[j]? = (wipe σ vs)[j]? ∧ env3[j]? = (wipeE env vs)[j]? := fun j hj => tg.same j fun z => hj (hv j z)
      have weq : wipe σ4 vs = wipe σ vs := by
        rw [wipe_eq tg.len fun j hj => (same j hj).1, wipe_wipe]
      have nD3 : H2 Dn ≠ none := by rw [hacc]; exact fun z => nomatch z
      have back : ∀ {F5 : Fz} {H5 : Hp} {st5 : S}, Good K dk H0 F0 F5 σ4 H5 env3 st5 → Good K dk H0 F0 F5 (wipe σ vs) H5 (wipeE env vs) st5 := fun {F5 H5 st5} g5 =>
        g5.reslot (by rw [wipe_length, wipeE_length]; exact gd.len) fun j s es => by
          rcases wipeE_get es with z | ⟨z1, z2⟩
          · exact .inl z
          · exact .inr ⟨(same j z2).2.trans es, (same j z2).1.symm⟩
      refine ⟨weq, ?_⟩
      refine ht dk H0 F0 F3 σ4 H3 env3 s2 b s4 g4 e4 _ fun F5 H5 x5 g5 => ?_
      have x25 : Ext dk F2 H2 F5 H5 := px.ext.trans x5
      have a5 : H5 Dn = some (.lst acc) := x25.h _ _ hacc nd.1 nd.2 (.inl f2.2)
      have f5 : F5.out Dn := x25.out f2 nD3
      cases b with
      | false =>
        exact ⟨F5, s4, acc, done, rest, le2.trans x25.f, x2.trans x25, back g5, a5, f5, by omega, racc.mono x25.f, e2, eo⟩
      | true =>
        replace e2 : ((f env3 s4).bind fun q => (compL t c f (wipeE env vs) (ds.drop (i + 1)) q.2).map fun r => (q.1 :: r.1, r.2)) = some (rest, st') := e2
        obtain ⟨⟨y, s6⟩, e6, e2⟩ := bnd e2
        obtain ⟨⟨rest', s7⟩, e7, e2⟩ := mpd e2
        cases e2
        refine he dk H0 F0 F5 σ4 H5 env3 s4 y s6 g5 e6 _ fun v F6 H6 x6 g6 r6 => ?_
        have x26 := x25.trans x6
        have a6 : H6 Dn = some (.lst acc) := x26.h _ _ hacc nd.1 nd.2 (.inl f2.2)
        have f6 : F6.out Dn := x26.out f2 nD3
        refine ⟨acc, a6, by omega, F6, s6, acc ++ [v], done ++ [y], rest', le2.trans x26.f, ?_, (back g6).mutT a6 f6 h0D nd.1 nd.2 noW, upd_same, f6, by simp; omega, (racc.mono x26.f).append (Rps.one r6), e7, by rw [← eo]; simp⟩
        exact (x2.trans x26).upd hD
    · have ei : i = ds.length := by omega
      subst ei
      rw [List.drop_length] at e2
      cases e2
      refine .inl ⟨(sd F2 H2 _ le2 x2 g2.wd ds.length).2 (Nat.le_refl _), ?_⟩
      rw [List.append_nil] at eo
      subst eo
      have g9 : Good K dk H0 F0 F2 σ H2 env st' := by
        have gx := g1.step x2 g2.wd
        exact gx
      exact q Dn acc F2 H2 (x1.trans x2) g9 hDH f2 hacc racc
  · cases e
/-! ### {k: v for ..} -/
def dcL (t : MG) (c : MT) (fk fv : ME) (env : Sg) : List D → List Key × List D → S → Option ((List Key × List D) × S)
  | [], a, st => some (a, st)
  | d :: ds, a, st => (t d env).bind fun e => (c e st).bind fun p => if p.1 then (fk e p.2).bind fun x => (keyOf x.1).bind fun k => (fv e x.2).bind fun y => dcL t c fk fv env ds (putKs a.1 k, putVs a.1 a.2 k y.1) y.2 else dcL t c fk fv env ds a p.2
def dcM (it : MI) (t : MG) (c : MT) (fk fv : ME) (vs : List Nat) : MK := fun env st => (it env st).bind fun p => if p.1.length ≤ sizeLine then dcL t c fk fv (wipeE env vs) p.1 ([], []) p.2 else none
theorem putKs_len {ks : List Key} {k : Key} : (putKs ks k).length ≤ ks.length + 1 := by
  unfold putKs
  split
  · omega
  · simp
theorem ik_dc {wi : TI} {g : TG} {tt : TT} {tk tv : TE} {vs : List Nat} {it : MI} {t : MG} {c : MT} {fk fv : ME} {is : List Nat} (hi : ImI K wi it) (hg : ImG K g t is) (ht : ImT K tt c) (hk : Im K tk fk) (he : Im K tv fv) (hv : ∀ i ∈ is, i ∈ vs) :
    ImK K (tDc wi g tt tk tv vs) (dcM it t c fk fv vs) := fun dk H0 F0 F σ H env st out st' gd e Q q => by
  obtain ⟨⟨ds, s1⟩, e1, e⟩ := bnd e
  replace e : (if ds.length ≤ sizeLine then dcL t c fk fv (wipeE env vs) ds ([], []) s1 else none) = some (out, st') := e
  split at e
  · rename_i hz
    refine hi dk H0 F0 F σ H env st ds s1 gd e1 _ fun J F1 H1 x1 g1 sd Dn hD => ?_
    have hDH : H Dn = none := x1.back hD
    have nd := g1.nedk hD
    have h0D := g1.fresh0 hD
    have noD := g1.noown hD
    have noW : ∀ (j : Nat) (es : Own), (wipeE env vs)[j]? = some (.own es) → (wipe σ vs)[j]? ≠ some (some (.ref Dn)) := fun j es e => by
      rcases wipeE_get e with z | ⟨z1, z2⟩
      · cases z
      · rw [wipe_off z2]; exact noD j es z1
    let P : Nat → Hp → Prop := fun i H => ∃ F2 st2 acc ks ks', Le F1 F2 ∧ Ext dk F1 H1 F2 H ∧ Good K dk H0 F0 F2 (wipe σ vs) H (wipeE env vs) st2 ∧ H Dn = some (.dK (ks.zip acc)) ∧ ks.length = acc.length ∧ F2.out Dn ∧ acc.length ≤ i ∧ Rps K dk F2 acc ks' ∧
      dcL t c fk fv (wipeE env vs) (ds.drop i) (ks, ks') st2 = some (out, st')
    have px0 : Px F1 H1 F1 (upd H1 Dn (.dK [])) := Px.lay g1.wd.sub hD
    refine ⟨fun i m H => m = ds.length - i ∧ i ≤ ds.length ∧ P i H, ⟨_, rfl, Nat.zero_le _, F1, s1, [], [], [], Le.refl F1, px0.ext, (g1.wiped).px px0, upd_same, rfl, g1.wd.out hD, Nat.zero_le _, .nil, e⟩, ?_⟩
    rintro i m H2 ⟨rfl, hle, F2, s2, acc, ks, ks', le2, x2, g2, hacc, hkl, f2, hal, racc, e2⟩
    by_cases hlt : i < ds.length
    · have hdi : ds[i]? = some ds[i] := List.getElem?_eq_getElem hlt
      obtain ⟨hgo, hy⟩ := (sd F2 H2 s2 le2 g2.wd i).1 _ hdi
      refine .inr ⟨hgo, P (i + 1), fun H' hp => ⟨_, by omega, rfl, hlt, hp⟩, fun x H3 hx => ?_⟩
      obtain ⟨F3, px, rx⟩ := hy x H3 hx
      have g3 := g2.px px
      rw [List.drop_eq_getElem_cons hlt] at e2
      obtain ⟨env3, e3, e2⟩ := bnd e2
      obtain ⟨⟨b, s4⟩, e4, e2⟩ := bnd e2
      refine hg dk H0 F0 F3 (wipe σ vs) H3 (wipeE env vs) s2 x _ env3 g3 rx e3 _ fun σ4 g4 tg => ?_
      have same : ∀ j : Nat, j ∉ vs → σ4[j]? = (wipe σ vs)[j]? ∧ env3[j]? = (wipeE env vs)[j]? := fun j hj => tg.same j fun z => hj (hv j z)
      have weq : wipe σ4 vs = wipe σ vs := by
        rw [wipe_eq tg.len fun j hj => (same j hj).1, wipe_wipe]
      have nD3 : H2 Dn ≠ none := nn hacc
      have back : ∀ {F5 : Fz} {H5 : Hp} {st5 : S}, Good K dk H0 F0 F5 σ4 H5 env3 st5 → Good K dk H0 F0 F5 (wipe σ vs) H5 (wipeE env vs) st5 := fun {F5 H5 st5} g5 =>
        g5.reslot (by rw [wipe_length, wipeE_length]; exact gd.len) fun j s es => by
          rcases wipeE_get es with z | ⟨z1, z2⟩
          · exact .inl z
          · exact .inr ⟨(same j z2).2.trans es, (same j z2).1.symm⟩
      refine ⟨weq, ?_⟩
      refine ht dk H0 F0 F3 σ4 H3 env3 s2 b s4 g4 e4 _ fun F5 H5 x5 g5 => ?_
      have x25 : Ext dk F2 H2 F5 H5 := px.ext.trans x5
      have a5 : H5 Dn = some (.dK (ks.zip acc)) := x25.h _ _ hacc nd.1 nd.2 (.inl f2.2)
      have f5 : F5.out Dn := x25.out f2 nD3
      cases b with
      | false =>
        exact ⟨F5, s4, acc, ks, ks', le2.trans x25.f, x2.trans x25, back g5, a5, hkl, f5, by omega, racc.mono x25.f, e2⟩
      | true =>
        replace e2 : ((fk env3 s4).bind fun x => (keyOf x.1).bind fun k => (fv env3 x.2).bind fun y => dcL t c fk fv (wipeE env vs) (ds.drop (i + 1)) (putKs ks k, putVs ks ks' k y.1) y.2) = some (out, st') := e2
        obtain ⟨⟨y, s6⟩, e6, e2⟩ := bnd e2
        obtain ⟨k, ek, e2⟩ := bnd e2
        obtain ⟨⟨z, s7⟩, e7, e2⟩ := bnd e2
        refine hk dk H0 F0 F5 σ4 H5 env3 s4 y s6 g5 e6 _ fun v F6 H6 x6 g6 r6 => ?_
        refine he dk H0 F0 F6 σ4 H6 env3 s6 z s7 g6 e7 _ fun u F7 H7 x7 g7 r7 => ?_
        have x27 := (x25.trans x6).trans x7
        have a7 : H7 Dn = some (.dK (ks.zip acc)) := x27.h _ _ hacc nd.1 nd.2 (.inl f2.2)
        have f7 : F7.out Dn := x27.out f2 nD3
        have hzl : (ks.zip acc).length = acc.length := by rw [List.length_zip, hkl, Nat.min_self]
        refine ⟨ks.zip acc, k, keyOf_rw (H := H6) (.rp r6) ek, a7, by rw [hzl]; omega, F7, s7, putVs ks acc k u, putKs ks k, putVs ks ks' k z, le2.trans x27.f, (x2.trans x27).upd hD, (back g7).mutT a7 f7 h0D nd.1 nd.2 noW, by rw [upd_same]; exact congrArg (fun z => some (HO.dK z)) (put_zip hkl), put_len hkl, f7, ?_, putVs_rps r7 (racc.mono x27.f), e2⟩
        rw [← put_len hkl]
        have := putKs_len (ks := ks) (k := k)
        omega
    · have ei : i = ds.length := by omega
      subst ei
      rw [List.drop_length] at e2
      cases e2
      refine .inl ⟨(sd F2 H2 _ le2 g2.wd ds.length).2 (Nat.le_refl _), ?_⟩
      have g9 : Good K dk H0 F0 F2 σ H2 env st' := g1.step x2 g2.wd
      exact q Dn acc F2 H2 (x1.trans x2) g9 hDH f2 hacc hkl racc
  · cases e
/-! ### walks over the keys of a dict -/
/-- an expression that only looks: a name, a field -/
def Pth [WW] (K : Fg) (te : TE) (f : ME) : Prop := ∀ (dk : Dk) (H0 : Hp) (F0 F : Fz) (σ : L2.St) (H : Hp) (env : Sg) (st : S) (d : D) (st' : S), Good K dk H0 F0 F σ H env st → f env st = some (d, st') →
  st' = st ∧ ∃ v, Rp K dk F v d ∧ (∀ Q : VK, Q v H → te σ H Q) ∧ ∀ (a : Addr) (od : Obj) (kvs : List (Key × V)), H a = some (.dK kvs) → ∀ Q : VK, Q v (upd H a (.frz od (.dK kvs))) → te σ (upd H a (.frz od (.dK kvs))) Q
theorem pth_var (i : Nat) : Pth K (tVar i) (rd i) := fun dk H0 F0 F σ H env st d st' g e => by
  unfold rd at e
  split at e
  · rename_i d' he
    cases e
    obtain ⟨v, h1, h2⟩ := g.sl i _ he
    exact ⟨rfl, v, h2, fun Q q => ⟨v, join_eq h1, q⟩, fun a od kvs _ Q q => ⟨v, join_eq h1, q⟩⟩
  · cases e
theorem itk_ok {a : Addr} {od : Obj} {ks : List Key} {vs : List V} (hl : ks.length = vs.length) (w : Wd K dk F H st) (ha : H a = some (.frz od (.dK (ks.zip vs)))) (i : Nat) :
    (∀ d, (ks.map keyD)[i]? = some d → (Itk a od (ks.zip vs)).go i H ∧ ∀ x H3, (Itk a od (ks.zip vs)).yld i H x H3 → ∃ F3, Px F H F3 H3 ∧ Rp K dk F3 x d) ∧ ((ks.map keyD).length ≤ i → (Itk a od (ks.zip vs)).stop i H) := by
  have hz : (ks.zip vs).length = ks.length := by rw [List.length_zip, hl, Nat.min_self]
  refine ⟨fun d hd => ?_, fun h => ⟨ha, by rw [hz]; simpa using h⟩⟩
  rw [List.getElem?_map] at hd
  obtain ⟨k, hk, rfl⟩ := mpd hd
  have hj : i < ks.length := by
    by_cases hl : i < ks.length
    · exact hl
    · rw [List.getElem?_eq_none (by omega)] at hk; cases hk
  refine ⟨⟨ha, by rw [hz]; exact hj⟩, fun y H2 hy => ?_⟩
  obtain ⟨e1, k', v', hkv, e2⟩ := hy
  subst e1 e2
  have : k' = k := by
    have hh := congrArg (Option.map Prod.fst) hkv
    rw [← List.getElem?_map, List.map_fst_zip (by omega), hk] at hh
    exact (Option.some.inj hh).symm
  subst this
  exact ⟨F, Px.refl w.sub, keyD_rp k'⟩
theorem for_keys {te : TE} {g : TG} {tb : TS} {t : MG} {b : MS} {is : List Nat} {a : Addr} {od : Obj} {ks : List Key} {vs : List V} {fl : Fl} {E : Ends} (hg : ImG K g t is) (hb : ImS K tb b) (gd : Good K dk H0 F0 F σ H env st)
    (ha : H a = some (.frz od (.dK (ks.zip vs)))) (hl : ks.length = vs.length) (hte : ∀ Q : VK, Q (.ref a) H → te σ H Q) (e : forL t b (ks.map keyD) env st = some (fl, st')) (hd : Dn K dk H0 F0 F E st' fl) : tFor (iKeys te) g tb E σ H := by
  refine hte _ ⟨a, od, rfl, .inl ⟨_, ha, ?_⟩⟩
  exact for_core hg hb gd (fun F2 σ2 H2 env2 st2 le g2 i => itk_ok hl g2.wd (gd.stays ha g2) i) e hd _ id
def tForK (te : TE) (g : TG) (tb : TS) : TS := fun E σ H => tLock (tFor (iKeys te) g tb) E σ H ∨ tFor (iKeys te) g tb E σ H
def unl (st : S) (n : Nat) : S := match st.ob[n]? with
  | some (.dic _ ks ds) => st.put n (.dic false ks ds)
  | _ => st
def lck (st : S) (n : Nat) : S := match st.ob[n]? with
  | some (.dic _ ks ds) => st.put n (.dic true ks ds)
  | _ => st
def forK (f : ME) (t : MG) (b : MS) : MS := fun env st => (f env st).bind fun p => match p.1 with
  | .dic ks _ => forL t b (ks.map keyD) env st
  | .ref n => match st.ob[n]? with
    | some (.dic false ks _) => (forL t b (ks.map keyD) env (lck st n)).map fun r => (r.1, unl r.2 n)
    | some (.dic true ks _) => forL t b (ks.map keyD) env st
    | _ => none
  | _ => none
theorem nfk {kvs : List (Key × V)} : ¬ Fro (.dK kvs) := by rintro ⟨_, _, z⟩; cases z
theorem Wd.lckS {n : Nat} {a : Addr} {od : Obj} {ks : List Key} {vs : List V} {ds : List D} (w : Wd K dk F H st) (hn : F.mu[n]? = some a) (ho : st.ob[n]? = some (.dic false ks ds)) (hl : ks.length = vs.length) (r : Rps K dk F vs ds) :
    Wd K dk F (L2.upd H a (.frz od (.dK (ks.zip vs)))) (lck st n) := by
  unfold lck
  rw [ho]
  exact w.put hn (.lck upd_same hl r)
theorem Wd.unlS {n : Nat} {a : Addr} {od : Obj} {kvs : List (Key × V)} (w : Wd K dk F H st) (hn : F.mu[n]? = some a) (ha : H a = some (.frz od (.dK kvs))) : Wd K dk F (L2.upd H a (.dK kvs)) (unl st n) := by
  have hlt : n < st.ob.length := by rw [← w.ml]; exact mu_lt hn
  obtain ⟨q1, q2⟩ := w.ob n a _ hn (List.getElem?_eq_getElem hlt)
  unfold unl
  rw [List.getElem?_eq_getElem hlt]
  generalize st.ob[n] = o at q2
  cases q2 with
  | lst h r => rw [ha] at h; cases h
  | dic h l r => rw [ha] at h; cases h
  | lck h l r =>
    rw [ha] at h
    cases h
    exact w.put hn (.dic upd_same l r)
  | ins c h l r => rw [ha] at h; cases h
  | nkd h _ _ _ _ _ _ => rw [ha] at h; cases h
  | nkl h _ _ _ _ _ _ => rw [ha] at h; cases h
  | tab _ h _ _ => rw [ha] at h; cases h
  | exc _ h _ => unfold L2.exo at h; rw [ha] at h; cases h
  | exc0 _ h => unfold L2.ExO at h; rw [ha] at h; cases h
theorem Dn.unlock {a : Addr} {od : Obj} {u : HO} {fl : Fl} {E : Ends} (g : Good K dk H0 F0 F σ H env st) (ha : H a = some u) (nf : ¬ Fro u) (hs : ∀ F' H', Wd K dk F' H' st' → Le F F' → H' a = some (.frz od u) → Wd K dk F' (L2.upd H' a u) st'')
    (n1 : a ≠ dk.1) (n2 : a ≠ dk.2) (hd : Dn K dk H0 F0 F E st'' fl) :
    Dn K dk (L2.upd H0 a (.frz od u)) F F ⟨fun σ' H' => H' a = some (.frz od u) ∧ E.nx σ' (L2.upd H' a u), fun v H' => H' a = some (.frz od u) ∧ E.rt v (L2.upd H' a u), fun σ' H' => H' a = some (.frz od u) ∧ E.bk σ' (L2.upd H' a u), fun σ' H' => H' a = some (.frz od u) ∧ E.ct σ' (L2.upd H' a u)⟩ st' fl := by
  have key : ∀ {F' : Fz} {H' : Hp}, Ext dk F (L2.upd H0 a (.frz od u)) F' H' → H' a = some (.frz od u) := fun x => x.h _ _ upd_same n1 n2 (.inr ⟨_, _, rfl⟩)
  cases fl with
  | nx env' => exact fun F' σ' H' le g' => ⟨key g'.ext, hd F' σ' _ le (g.unlock ha nf g' (hs F' H' g'.wd le (key g'.ext)))⟩
  | bk env' => exact fun F' σ' H' le g' => ⟨key g'.ext, hd F' σ' _ le (g.unlock ha nf g' (hs F' H' g'.wd le (key g'.ext)))⟩
  | ct env' => exact fun F' σ' H' le g' => ⟨key g'.ext, hd F' σ' _ le (g.unlock ha nf g' (hs F' H' g'.wd le (key g'.ext)))⟩
  | rt d => exact fun v F' H' x w r => ⟨key x, hd v F' _ (g.ext.unlock ha nf x) (hs F' H' w x.f (key x)) r⟩
theorem is_forK {te : TE} {f : ME} {g : TG} {tb : TS} {t : MG} {b : MS} {is : List Nat} (hp : Pth K te f) (hg : ImG K g t is) (hb : ImS K tb b) : ImS K (tForK te g tb) (forK f t b) := fun dk H0 F0 F σ H env st fl st' gd e E hd => by
  obtain ⟨⟨d, s1⟩, e1, e⟩ := bnd e
  obtain ⟨es, v, r, q1, q2⟩ := hp dk H0 F0 F σ H env st d s1 gd e1
  cases d with
  | dic ks ds =>
    dsimp only at e
    cases r with
    | @dic a _ vs _ ha hl r =>
      have n1 : a ≠ dk.1 := fun z => by rw [z, gd.wd.f1.1] at ha; cases ha
      have n2 : a ≠ dk.2 := fun z => by rw [z, gd.wd.f2.1] at ha; cases ha
      have no : ∀ (i : Nat) (ds : Own), env[i]? = some (.own ds) → σ[i]? ≠ some (some (.ref a)) := fun i ds hi hs => by
        obtain ⟨p, _, h1, _, h3, _⟩ := gd.sl i _ hi
        rw [hs] at h1
        cases h1
        have h31 := h3.1
        rw [ha] at h31; cases h31
      rcases gd.wd.sub a _ ha with hH | ⟨od, kvs, ek, hH⟩
      · refine .inl ⟨a, _, hH, trivial, fun od => ?_⟩
        have gl := gd.lock (od := od) no (gd.wd.lockF ha)
        refine for_keys hg hb gl upd_same hl (q2 a od _ hH) e (Dn.unlock gd hH nfk (fun F' H' w le _ => w.unlockF (le.h _ _ ha)) n1 n2 hd)
      · exact .inr (for_keys hg hb gd hH hl q1 e hd)
  | ref n =>
    cases r with
    | @ref a _ hn =>
      have hm := List.mem_of_getElem? hn
      obtain ⟨n1, n2⟩ := gd.wd.ndk hm
      have no : ∀ (i : Nat) (ds : Own), env[i]? = some (.own ds) → σ[i]? ≠ some (some (.ref a)) := fun i ds hi hs => by
        obtain ⟨p, _, h1, _, h3, _⟩ := gd.sl i _ hi
        rw [hs] at h1
        cases h1
        exact h3.2 hm
      dsimp only at e
      split at e
      · rename_i ks ds ho
        obtain ⟨⟨fl2, s2⟩, e2, e⟩ := mpd e
        cases e
        obtain ⟨_, ob⟩ := gd.wd.ob n a _ hn ho
        cases ob with
        | @dic _ vs _ hH hl r =>
          refine .inl ⟨a, _, hH, trivial, fun od => ?_⟩
          have gl := gd.lock (od := od) no (gd.wd.lckS hn ho hl r)
          refine for_keys hg hb gl upd_same hl (q2 a od _ hH) e2 (Dn.unlock gd hH nfk (fun F' H' w le hf => w.unlS (le.at hn) hf) n1 n2 hd)
      · rename_i ks ds ho
        obtain ⟨_, ob⟩ := gd.wd.ob n a _ hn ho
        cases ob with
        | lck hH hl r => exact .inr (for_keys hg hb gd hH hl q1 e hd)
      · cases e
  | _ => cases e
/-! comprehensions over the keys of a frozen dict -/
def keysI (f : ME) : MI := fun env st => (f env st).bind fun p => (isDicD p.1).map fun q => (q.1.map keyD, p.2)
def tLcK (te : TE) (g : TG) (tt : TT) (tv : TE) (vs : List Nat) : TE := fun σ H Q => tLockE (tLc (iKeys te) g tt tv vs) σ H Q ∨ tLc (iKeys te) g tt tv vs σ H Q
/-- the walk over a locked dict -/
def wK (te : TE) : TI := iKeys te
theorem if_compK {te : TE} {f : ME} {g : TG} {tt : TT} {tv : TE} {vs : List Nat} {t : MG} {c : MT} {fv : ME} {is : List Nat} (hp : Pth K te f) (hg : ImG K g t is) (ht : ImT K tt c) (he : Im K tv fv) (hv : ∀ i ∈ is, i ∈ vs) :
    ImF K (tLcK te g tt tv vs) (compM (keysI f) t c fv vs) := fun dk H0 F0 F σ H env st out st' gd e Q q => by
  obtain ⟨⟨ds, s1⟩, e1, e'⟩ := bnd e
  obtain ⟨⟨d, s2⟩, e2, e3⟩ := bnd e1
  obtain ⟨⟨ks, es⟩, e4, e5⟩ := mpd e3
  cases e5
  obtain ⟨hs, v, r, q1, q2⟩ := hp dk H0 F0 F σ H env st d _ gd e2
  have hs' : s2 = st := hs
  subst hs'
  have hd' : d = .dic ks es := isDicD_eq e4
  subst hd'
  -- the comprehension at a heap where the dict is locked
  have core : ∀ {a : Addr} {od : Obj} {us : List V} {H0' H1 : Hp} {F0' : Fz} (Q' : VK), Good K dk H0' F0' F σ H1 env s2 → H1 a = some (.frz od (.dK (ks.zip us))) → ks.length = us.length → (∀ Q : VK, Q (.ref a) H1 → te σ H1 Q) →
      (∀ p vs F' H', Ext dk F H1 F' H' → Good K dk H0' F0' F' σ H' env st' → H1 p = none → F'.out p → H' p = some (.lst vs) → Rps K dk F' vs out → Q' (.ref p) H') → tLc (iKeys te) g tt tv vs σ H1 Q' := by
    intro a od us H0' H1 F0' Q' g1 ha hl hte hq
    have n1 : a ≠ dk.1 := fun z => by rw [z, g1.wd.d1] at ha; cases ha
    have n2 : a ≠ dk.2 := fun z => by rw [z, g1.wd.d2] at ha; cases ha
    let wi : TI := fun σ' H' R => σ' = σ → H' = H1 → iKeys te σ' H' R
    have hx : tLc wi g tt tv vs σ H1 Q' := if_compX (wi := fun σ' H' R => σ' = σ → H' = H1 → iKeys te σ' H' R) (it := fun _ s => some (ks.map keyD, s)) (fun dk2 H02 F02 F2 σ2 H2 env2 st2 ds2 st2' gd2 ee2 R qq => by
        intro z1 z2
        cases ee2
        subst z1 z2
        exact hte _ ⟨a, od, rfl, .inl ⟨_, ha, qq _ F2 _ (Ext.refl _ _) gd2 fun F3 H3 st3 le x w i => by
          have n1' : a ≠ dk2.1 := fun z => by rw [z, gd2.wd.d1] at ha; cases ha
          have n2' : a ≠ dk2.2 := fun z => by rw [z, gd2.wd.d2] at ha; cases ha
          exact itk_ok hl w (x.h _ _ ha n1' n2' (.inr ⟨_, _, rfl⟩)) i⟩⟩) hg ht he hv dk H0' F0' F σ H1 env s2 out st' g1 e' Q' hq
    exact hx rfl rfl
  cases r with
  | @dic a _ us _ ha hl r =>
    rcases gd.wd.sub a _ ha with hH | ⟨od, kvs, ek, hH⟩
    · have no : ∀ (i : Nat) (ds : Own), env[i]? = some (.own ds) → σ[i]? ≠ some (some (.ref a)) := fun i ds hi hs => by
        obtain ⟨p, _, h1, _, h3, _⟩ := gd.sl i _ hi
        rw [hs] at h1
        cases h1
        have h31 := h3.1
        rw [ha] at h31; cases h31
      have n1 : a ≠ dk.1 := fun z => by rw [z, gd.wd.f1.1] at ha; cases ha
      have n2 : a ≠ dk.2 := fun z => by rw [z, gd.wd.f2.1] at ha; cases ha
      refine .inl ⟨a, _, hH, trivial, fun od => ?_⟩
      have gl := gd.lock (od := od) no (gd.wd.lockF ha)
      refine core _ gl upd_same hl (q2 a od _ hH) fun p ws F' H' x g' hp' fp' hl' r' => ?_
      have hk : H' a = some (.frz od (.dK (ks.zip us))) := x.h _ _ upd_same n1 n2 (.inr ⟨_, _, rfl⟩)
      have np : p ≠ a := fun z => by rw [z, upd_same] at hp'; cases hp'
      have hpH : H p = none := by rw [upd_ne np] at hp'; exact hp'
      refine ⟨hk, q p ws F' _ ?_ (gd.unlock hH nfk g' (g'.wd.unlockF (x.f.h _ _ ha))) hpH fp' (by rw [upd_ne np]; exact hl') r'⟩
      refine ⟨fun b o e m1 m2 m3 => ?_, x.f, fun b h1 h2 => ?_, fun b h z => ?_, fun b h => ?_, fun b o e fo => ?_⟩
      · by_cases nb : b = a
        · subst nb; rw [upd_same, ← e, hH]
        · rw [upd_ne nb]; exact x.h b o (by rw [upd_ne nb]; exact e) m1 m2 m3
      · refine x.n b h1 ?_
        by_cases nb : b = a
        · subst nb; exact nn upd_same
        · rw [upd_ne nb]; exact h2
      · by_cases nb : b = a
        · subst nb; rw [upd_same] at z; cases z
        · rw [upd_ne nb] at z; exact x.m b (by rw [upd_ne nb]; exact h) z
      · rcases x.u b h with z | z
        · exact .inl z
        · by_cases nb : b = a
          · subst nb; rw [upd_same] at z; cases z
          · rw [upd_ne nb] at z; exact .inr z
      · by_cases nb : b = a
        · subst nb; rw [upd_same] at e; cases e; exact absurd fo nfk
        · rw [upd_ne nb] at e
          have := x.k b o e fo
          rw [upd_ne nb] at this; exact this
    · exact .inr (core _ gd hH hl q1 q)
end
end MD

set_option Elab.async false
set_option linter.all false
set_option maxRecDepth 100000
set_option maxHeartbeats 4000000
namespace MD
open PySem PySem.Spec PyProof.Rows L2
variable {ww : WW}

/-! ### tuple * int, where the tuple itself or no item comes out -/
theorem tuple_mulS (l : Addr) (items : Array Value) (n : Nat) (dd : Option Addr) (sl : Array (Option Value)) (x : Int) (u : Tok) (c0 : (decide (x < -(2 ^ 63)) || decide (x ≥ 2 ^ 63)) = false) (c1 : (items.isEmpty || x == 1) = true) :
    Meets (Builtin.«tuple.__mul__» ⟨[.ref l, .int x u], []⟩) (fun _ R s => s.heap.get? l = some { cls := .type "tuple", dict := dd, data := .seq items n, slots := sl } ∧ R (.ok (.ret (Value.ref l))) s) :=
  .of_wp fun prog w A R s h => by
    obtain ⟨hp, g, d, tk, os⟩ := s
    obtain ⟨hl, h⟩ := h
    have f1 := AutoSeq1.idx_int
    wp_walk using wpAny_loadPart' hl
    repeat (first
      | (refine wpAny_ite_false (decide_eq_false (by rw [c0]; exact Bool.false_ne_true)) ?_; wp_walk using wpAny_loadPart' hl)
      | (refine wpAny_ite_true (decide_eq_true c1) ?_; wp_walk using wpAny_loadPart' hl))
    exact ⟨_, rfl, h⟩
theorem tuple_mulE (l : Addr) (items : Array Value) (n : Nat) (dd : Option Addr) (sl : Array (Option Value)) (x : Int) (u : Tok) (c0 : (decide (x < -(2 ^ 63)) || decide (x ≥ 2 ^ 63)) = false) (c1 : (items.isEmpty || x == 1) = false) (c2 : (decide (x ≤ 0) || items.isEmpty) = true) :
    Meets (Builtin.«tuple.__mul__» ⟨[.ref l, .int x u], []⟩) (fun _ R s => s.heap.get? l = some { cls := .type "tuple", dict := dd, data := .seq items n, slots := sl } ∧
      R (.ok (.ret (Value.ref s.heap.objs.size))) { s with heap := s.heap.push { cls := Value.type "tuple", data := Data.seq #[] }, toks := s.toks }) :=
  .of_wp fun prog w A R s h => by
    obtain ⟨hp, g, d, tk, os⟩ := s
    obtain ⟨hl, h⟩ := h
    have f1 := AutoSeq1.idx_int
    wp_walk using wpAny_loadPart' hl
    repeat (first
      | (refine wpAny_ite_false (decide_eq_false (by rw [c0]; exact Bool.false_ne_true)) ?_; wp_walk using wpAny_loadPart' hl)
      | (refine wpAny_ite_false (decide_eq_false (by rw [c1]; exact Bool.false_ne_true)) ?_; wp_walk using wpAny_loadPart' hl)
      | (refine wpAny_ite_true (decide_eq_true c2) ?_; wp_walk using wpAny_loadPart' hl))
    exact ⟨_, rfl, h⟩
def rRepS (K : Fg) : R2 := fun x y H Q => ∃ l k xs, x = .ref l ∧ y = .int k ∧ SqT K H l xs ∧ -1000 ≤ k ∧ k ≤ 1000 ∧ (((xs = [] ∨ k = 1) ∧ Q (.ref l) H) ∨ (xs ≠ [] ∧ k ≤ 0 ∧ ∀ p, H p = none → Q (.ref p) (upd H p (.tup []))))
theorem op_repS {X : Cx} : OpR X (binaryOp .Mult) (rRepS X.K) := by
  intro pins s σ H x y v u Q I rx ry h
  obtain ⟨l, k, xs, rfl, rfl, hT, h1, h2, q⟩ := h
  cases rx
  obtain ⟨t, rfl⟩ := ry
  obtain ⟨its, r, ⟨⟨cls, dd, data, sl⟩, ho, hc, n, hd⟩, hs⟩ := I.tuple hT
  simp only at hc hd
  subst hc hd
  have hle : its.length = xs.length := r.length.symm
  have c0 : (decide (k < -(2 ^ 63)) || decide (k ≥ 2 ^ 63)) = false := by
    rw [decide_eq_false (by omega), decide_eq_false (by omega)] <;> rfl
  rcases q with ⟨hc, q⟩ | ⟨hne, hk, q⟩
  · have c1 : (its.toArray.isEmpty || k == 1) = true := by
      rcases hc with hc | hc
      · have : its = [] := List.eq_nil_of_length_eq_zero (by rw [hle, hc]; rfl)
        subst this; rfl
      · subst hc; simp
    refine wpAny_binaryOp_repeat_ref (T := "tuple") (U := "int") (by decide) ⟨_, ho, rfl⟩ (fun s' => typeIs_int s' k t) noFill_tuple_mul F.fills_int_mul F.slot_int_rmul repeat_tuple F.slot_int_index.lookup
      (call_meets F.slot_int_rmul (typeIs_int s k t) F.entry_int_rmul (F.args_int_rmul_2 _ _) (int_rmul_tuple k t l its.toArray n dd sl)
        ⟨ho, rfl, ⟨_, ho, rfl⟩, call_meets F.slot_tuple_mul ⟨_, ho, rfl⟩ F.entry_tuple_mul (F.args_tuple_mul_2 _ _) (tuple_mulS l its.toArray n dd sl k t c0 c1) ⟨ho, ?_⟩⟩)
    exact ⟨.ref l, H, I, rfl, q⟩
  · have hn : its ≠ [] := fun e => hne (by
      rw [e] at hle
      exact List.eq_nil_of_length_eq_zero hle.symm)
    have hi : its.toArray.isEmpty = false := by
      cases its with
      | nil => exact absurd rfl hn
      | cons a b => rfl
    have c1 : (its.toArray.isEmpty || k == 1) = false := by
      rw [hi, Bool.false_or]
      exact beq_eq_false_iff_ne.mpr (by omega)
    have c2 : (decide (k ≤ 0) || its.toArray.isEmpty) = true := by rw [decide_eq_true hk]; rfl
    refine wpAny_binaryOp_repeat_ref (T := "tuple") (U := "int") (by decide) ⟨_, ho, rfl⟩ (fun s' => typeIs_int s' k t) noFill_tuple_mul F.fills_int_mul F.slot_int_rmul repeat_tuple F.slot_int_index.lookup
      (call_meets F.slot_int_rmul (typeIs_int s k t) F.entry_int_rmul (F.args_int_rmul_2 _ _) (int_rmul_tuple k t l its.toArray n dd sl)
        ⟨ho, rfl, ⟨_, ho, rfl⟩, call_meets F.slot_tuple_mul ⟨_, ho, rfl⟩ F.entry_tuple_mul (F.args_tuple_mul_2 _ _) (tuple_mulE l its.toArray n dd sl k t c0 c1 c2) ⟨ho, ?_⟩⟩)
    refine ⟨.ref s.heap.objs.size, _, I.laid (t' := s.toks) (o := .tup []) (fun b ob q => Heap.get?_push_of_some _ q) (Nat.le_refl _) ?_, rfl, q _ (I.hok.fresh (Nat.le_refl _))⟩
    exact ⟨by show 0 ≤ sizeLine; exact Nat.zero_le _, [], .nil, IsTup.new _ _⟩
section
variable {K : Fg} {dk : Dk} {F F' F0 : Fz} {H H' H0 : Hp} {σ σ' : L2.St} {env env' : Sg} {st st' st'' : S}
def rMulA (K : Fg) : R2 := fun x y H Q => rI CMul (fun i j => .int (i * j)) x y H Q ∨ rRepT K x y H Q ∨ rRepS K x y H Q ∨ rRep x y H Q
theorem op_mulA {X : Cx} : OpR X (binaryOp .Mult) (rMulA X.K) := OpR.or op_mul (OpR.or op_repT (OpR.or op_repS op_rep))
def mulA : D → D → Option D
  | .tup ds, .int k => if ds.length ≤ 1000 ∧ -1000 ≤ k ∧ k ≤ 1000 then some (.tup (List.replicate k.toNat ds).flatten) else none
  | .lst ds, .int k => if ds.length ≤ 1000 ∧ -1000 ≤ k ∧ k ≤ 1000 then some (.lst (List.replicate k.toNat ds).flatten) else none
  | d, e => mulM d e
theorem Rps.rep {vs : List V} {ds : List D} (r : Rps K dk F vs ds) : ∀ (n : Nat), Rps K dk F (List.replicate n vs).flatten (List.replicate n ds).flatten
  | 0 => .nil
  | n + 1 => by
    rw [List.replicate_succ, List.replicate_succ, List.flatten_cons, List.flatten_cons]
    exact r.append (Rps.rep r n)
theorem flat_nil {α : Type} (n : Nat) : (List.replicate n ([] : List α)).flatten = [] := by
  induction n with
  | zero => rfl
  | succ n ih => rw [List.replicate_succ, List.flatten_cons, ih]; rfl
theorem ro_mulA : RO K (rMulA K) mulA := by
  intro dk F H st x y d e z w rx ry hz Q q
  unfold mulA at hz
  split at hz
  · rename_i ds k
    split at hz
    · rename_i hc
      cases hz
      obtain ⟨p, vs, rfl, hp, r⟩ := rx.tup w.sub
      cases ry.int
      by_cases h1 : ds = [] ∨ k = 1
      · refine .inr (.inr (.inl ⟨p, k, vs, rfl, rfl, hp, hc.2.1, hc.2.2, .inl ⟨?_, ?_⟩⟩))
        · rcases h1 with h1 | h1
          · subst h1; cases r; exact .inl rfl
          · exact .inr h1
        · have e : (List.replicate k.toNat ds).flatten = ds := by
            rcases h1 with h1 | h1
            · subst h1; exact flat_nil _
            · subst h1; simp
          rw [e] at q
          exact q _ F H (Px.refl w.sub) rx.tp
      · have hn : vs ≠ [] := fun z => h1 (.inl (by subst z; cases r; rfl))
        by_cases h2 : k ≤ 0
        · refine .inr (.inr (.inl ⟨p, k, vs, rfl, rfl, hp, hc.2.1, hc.2.2, .inr ⟨hn, h2, fun a ha => ?_⟩⟩))
          have px : Px F H (F.up a (.tup [])) (upd H a (.tup [])) := Px.new w.sub ha
          have e : k.toNat = 0 := by omega
          rw [e] at q
          exact q _ _ _ px (.tup (SqT.of Fz.up_same) .nil)
        · have h3 : k ≠ 1 := fun z => h1 (.inr z)
          refine .inr (.inl ⟨p, k, vs, rfl, rfl, hp, hn, by omega, hc.2.2, by rw [r.length]; exact hc.1, fun a ha => ?_⟩)
          have px : Px F H (F.up a (.tup (List.replicate k.toNat vs).flatten)) (upd H a (.tup (List.replicate k.toNat vs).flatten)) := Px.new w.sub ha
          exact q _ _ _ px (.tup (SqT.of Fz.up_same) ((r.rep k.toNat).mono px.f))
    · cases hz
  · rename_i ds k
    split at hz
    · rename_i hc
      cases hz
      obtain ⟨p, vs, rfl, hp, r⟩ := rx.l w.sub
      cases ry.int
      refine .inr (.inr (.inr ⟨p, k, vs, rfl, rfl, hp, by omega, by omega, ?_, fun a ha => ?_⟩))
      · rw [r.length, sizeLine_eq]
        have a1 : ds.length * k.toNat ≤ 1000 * 1000 := Nat.mul_le_mul hc.1 (by omega)
        omega
      · have px : Px F H (F.up a (.lst (List.replicate k.toNat vs).flatten)) (upd H a (.lst (List.replicate k.toNat vs).flatten)) := Px.new w.sub ha
        exact q _ _ _ px (.lst Fz.up_same ((r.rep k.toNat).mono px.f))
    · cases hz
  · exact .inl (ro_mul dk F H st x y _ _ z w rx ry hz Q q)
/-! ### list(..) -/
def rListA (K : Fg) : List V → Hp → VK → Prop := fun xs H Q => (∃ p ys, xs = [.ref p] ∧ (SqL K H p ys ∨ SqT K H p ys) ∧ ∀ l, H l = none → Q (.ref l) (upd H l (.lst ys))) ∨
  ∃ (a : Addr) (kvs : List (Key × V)), xs = [.ref a] ∧ Rd H a (.dK kvs) ∧ ∀ p, H p = none → Q (.ref p) (upd H p (.lst (kvs.map fun kv => kV kv.1)))
theorem call_listA {X : Cx} (hc : X.calm = true) : CallR X (.type "list") (rListA X.K) := CallR.or call_list_of (call_listD hc)
def listD : List D → Option (List D)
  | [.lst ds] => some ds
  | [.tup ds] => some ds
  | [.dic ks _] => some (ks.map keyD)
  | _ => none
def listM (a : MA) : MA := fun env st => (a env st).bind fun p => (listD (p.1.map (dr p.2))).map fun z => (z, p.2)
theorem keys_rps : ∀ {ks : List Key} {vs : List V}, ks.length = vs.length → Rps K dk F ((ks.zip vs).map fun kv => kV kv.1) (ks.map keyD)
  | [], [], _ => .nil
  | k :: ks, v :: vs, h => .cons (keyD_rp k) (keys_rps (by simpa using h))
theorem if_list {ta : TA} {a : MA} (ha : ImAW K ta a) : ImF K (tCB (rListA K) ta) (listM a) := fun dk H0 F0 F σ H env st d st' g e Q q => by
  obtain ⟨⟨xs, s1⟩, h1, e⟩ := bnd e
  obtain ⟨z, h2, e⟩ := mpd e
  cases e
  refine ha dk H0 F0 F σ H env st xs s1 g h1 _ fun vs F1 H1 x1 g1 r1 => ?_
  have r2 := r1.dr g1.wd
  have fin : ∀ (us : List V) (p : Addr), H1 p = none → Rps K dk F1 us d → Q (.ref p) (upd H1 p (.lst us)) := fun us p hp r => by
    have px : Px F1 H1 F1 (upd H1 p (.lst us)) := Px.lay g1.wd.sub hp
    exact q p us F1 _ (x1.trans px.ext) (g1.px px) (x1.back hp) (g1.wd.out hp) upd_same r
  replace h2 : listD (xs.map (dr s1)) = some d := h2
  generalize xs.map (dr s1) = ys at h2 r2
  unfold listD at h2
  split at h2
  · cases h2
    obtain ⟨v, rfl, r⟩ := r2.one
    obtain ⟨p, us, rfl, hl, r⟩ := r.l g1.wd.sub
    exact .inl ⟨p, us, rfl, .inl (SqL.of hl), fun l hl => fin us l hl r⟩
  · cases h2
    obtain ⟨v, rfl, r⟩ := r2.one
    obtain ⟨p, us, rfl, hl, r⟩ := r.tup g1.wd.sub
    exact .inl ⟨p, us, rfl, .inr hl, fun l hl => fin us l hl r⟩
  · cases h2
    obtain ⟨v, rfl, r⟩ := r2.one
    obtain ⟨p, us, rfl, hr, hl, r⟩ := r.d g1.wd.sub
    exact .inr ⟨p, _, rfl, hr, fun l h => fin _ l h (keys_rps hl)⟩
  · cases h2
/-! ### isinstance(e, T), T a built-in class -/
def tTy (T : String) : TE := fun _ H Q => Q (.ty T) H
theorem pe_tyName {X : Cx} {x : Str} {T : String} {pos : Pos} (hg : Gl X x) (hm : X.mg x = none) (hv : bootBuiltins x = some (.type T)) (hn : x ≠ "__name__" := by decide) (hdb : (x == ("__debug__" : Str)) = false := by decide) : PE X (.Name x pos) (tTy T) :=
  ⟨fun pins s σ H Q I h => ld_blt I hg hm hv ⟨.ty T, H, I, rfl, h⟩ hn hdb⟩
def tyD : D → Option String
  | .non => some "NoneType"
  | .bl _ => some "bool"
  | .int _ => some "int"
  | .str _ => some "str"
  | .lst _ => some "list"
  | .tup _ => some "tuple"
  | .dic _ _ => some "dict"
  | _ => none
def isiM (T : String) (f : ME) : ME := fun env st => (f env st).bind fun p => (tyD (dr p.2 p.1)).bind fun t => (kitB t T).map fun b => (.bl b, p.2)
theorem sqT_ty {a : Addr} {vs : List V} (h : SqT K H a vs) : TyX K H (.ref a) (.type "tuple") := by
  rcases h with h | h
  · rcases h with h | ⟨o, h⟩
    · exact .base (.tup h)
    · exact .fTuple h
  · obtain ⟨o, its, n, h1, h2, _⟩ := h
    exact .kTuple h1 h2
theorem tyX_of {v : V} {d : D} {t : String} (s : Sb F H) (r : Rw K dk F H v d) (h : tyD d = some t) : TyX K H v (.type t) := by
  cases d with
  | non => cases h; rw [r.non]; exact .base .non
  | bl b => cases h; rw [r.bl]; exact .base (.bl b)
  | int i => cases h; rw [r.int]; exact .base (.int i)
  | str x => cases h; rw [r.str]; exact .base (.str x)
  | lst ds =>
    cases h
    obtain ⟨p, vs, rfl, h1, _⟩ := r.l s
    exact .base (.lst h1)
  | tup ds =>
    cases h
    obtain ⟨p, vs, rfl, h1, _⟩ := r.tup s
    exact sqT_ty h1
  | dic ks ds =>
    cases h
    obtain ⟨p, vs, rfl, h1, _⟩ := r.d s
    rcases h1 with h1 | ⟨o, h1⟩
    · exact .base (.dK h1)
    · exact .fDict h1
  | _ => cases h
theorem im_isi {te : TE} {f : ME} (T : String) (h : ImW K te f) : Im K (tCB (rIsi K) (tCons te (tCons (tTy T) tNil))) (isiM T f) := fun dk H0 F0 F σ H env st d st' g e Q q => by
  obtain ⟨⟨x, s1⟩, e1, e⟩ := bnd e
  obtain ⟨t, e2, e⟩ := bnd e
  obtain ⟨b, e3, e⟩ := mpd e
  cases e
  refine h dk H0 F0 F σ H env st x _ g e1 _ fun v F1 H1 x1 g1 r1 => ?_
  exact ⟨v, .ty T, .type t, .type T, b, rfl, .ty T, tyX_of g1.wd.sub (r1.dr g1.wd) e2, kit_ty e3, q (.bl b) F1 H1 x1 g1 (.bl b)⟩
/-! ### x = xs.pop(), x = xs.pop(i), of a name's own list: as an expression it changes the name -/
def popL (i : Nat) (t : MG) : MS := fun env st => match env[i]? with
  | some (.own (.lst, ds)) => (ds[ds.length - 1]?).bind fun d => (t d (env.set i (.own (.lst, ds.dropLast)))).map fun e => (.nx e, st)
  | _ => none
theorem Rps.dropLast {vs : List V} {ds : List D} (r : Rps K dk F vs ds) : Rps K dk F vs.dropLast ds.dropLast := by
  rw [List.dropLast_eq_take, List.dropLast_eq_take, r.length]
  exact r.take _
theorem is_popL {g : TG} {t : MG} {is : List Nat} (i : Nat) (hg : ImG K g t is) : ImS K (tAsg (tBM0 K "list" rPop (tVar i)) g) (popL i t) := fun dk H0 F0 F σ H env st fl st' gd e E hd => by
  unfold popL at e
  split at e
  · rename_i ds he
    obtain ⟨d, e1, e⟩ := bnd e
    obtain ⟨en, e2, e⟩ := mpd e
    cases e
    obtain ⟨p, vs, h1, h2, h3, h4, h5, h6, h7⟩ := gd.sl i _ he
    obtain ⟨v, k1, k2⟩ := h7.get e1
    refine ⟨.ref p, join_eq h1, .inl ⟨rfl, vs, SqL.of h2⟩, p, vs, v, rfl, rfl, h2, by rw [h7.length]; exact k1, ?_⟩
    have g2 : Good K dk H0 F0 F σ (upd H p (.lst vs.dropLast)) (env.set i (.own (.lst, ds.dropLast))) st := gd.mut (ds' := (.lst, ds.dropLast)) he (join_eq h1) upd_same h7.dropLast
    exact hg dk H0 F0 F σ _ _ st v d en g2 k2 e2 _ fun σ' g3 _ => hd F σ' _ (Le.refl F) g3
  · cases e
/-! e.pop(), e.pop(i), of a list of the store -/
def spopM (fo : ME) : ME := fun env st => (fo env st).bind fun o => (refOf o.1).bind fun n => (lstAt o.2 n).bind fun ds => (ds[ds.length - 1]?).map fun d => (d, o.2.put n (.lst ds.dropLast))
theorem im_spop {to : TE} {fo : ME} (ho : Im K to fo) : Im K (tBM0 K "list" rPop to) (spopM fo) := fun dk H0 F0 F σ H env st d st' g e Q q => by
  obtain ⟨⟨x, s1⟩, h1, e⟩ := bnd e
  obtain ⟨n, h2, e⟩ := bnd e
  obtain ⟨ds, h3, e⟩ := bnd e
  obtain ⟨d', h4, e⟩ := mpd e
  cases e
  refine ho dk H0 F0 F σ H env st x s1 g h1 _ fun v F1 H1 x1 g1 r1 => ?_
  have hx : x = .ref n := refOf_eq h2
  subst hx
  obtain ⟨a, rfl, ha⟩ := r1.refn
  obtain ⟨vs, hv, rv⟩ := g1.wd.lstAt ha h3
  obtain ⟨u, k1, k2⟩ := rv.get h4
  refine ⟨.inl ⟨rfl, vs, SqL.of hv⟩, a, vs, u, rfl, rfl, hv, by rw [rv.length]; exact k1, ?_⟩
  have nf : ¬ Fro (.lst vs) := by rintro ⟨_, _, z⟩; cases z
  have nf' : ¬ Fro (.lst vs.dropLast) := by rintro ⟨_, _, z⟩; cases z
  exact q u F1 _ (x1.put ha hv nf nf') (g1.put ha hv nf (.lst upd_same rv.dropLast) nf') k2
theorem Rps.erase : ∀ {vs : List V} {ds : List D} (n : Nat), Rps K dk F vs ds → Rps K dk F (vs.eraseIdx n) (ds.eraseIdx n)
  | _, _, _, .nil => .nil
  | _, _, 0, .cons _ r => r
  | _, _, n + 1, .cons a r => .cons a (Rps.erase n r)
def spopAt (fo fi : ME) : ME := fun env st => (fo env st).bind fun o => (refOf o.1).bind fun n => (lstAt o.2 n).bind fun _ => (fi env o.2).bind fun p => (intOf p.1).bind fun i => (lstAt p.2 n).bind fun ds => if 0 ≤ i ∧ i < ds.length ∧ ds.length ≤ sizeLine then (ds[i.toNat]?).map fun d => (d, p.2.put n (.lst (ds.eraseIdx i.toNat))) else none
theorem im_spopAt {to ti : TE} {fo fi : ME} (ho : Im K to fo) (hi : ImW K ti fi) : Im K (tBM K "list" rPopAt to (tCons ti tNil)) (spopAt fo fi) := fun dk H0 F0 F σ H env st d st' g e Q q => by
  obtain ⟨⟨x, s1⟩, h1, e⟩ := bnd e
  obtain ⟨n, h2, e⟩ := bnd e
  obtain ⟨_, h0, e⟩ := bnd e
  obtain ⟨⟨y, s2⟩, h3, e⟩ := bnd e
  obtain ⟨i, h4, e⟩ := bnd e
  obtain ⟨ds, h5, e⟩ := bnd e
  split at e
  · rename_i hz
    obtain ⟨d', h6, e⟩ := mpd e
    cases e
    refine ho dk H0 F0 F σ H env st x s1 g h1 _ fun v F1 H1 x1 g1 r1 => ?_
    have hx : x = .ref n := refOf_eq h2
    subst hx
    obtain ⟨a, rfl, ha⟩ := r1.refn
    obtain ⟨vs0, hv0, _⟩ := g1.wd.lstAt ha h0
    refine ⟨.inl ⟨rfl, vs0, SqL.of hv0⟩, ?_⟩
    refine hi dk H0 F0 F1 σ H1 env s1 y s2 g1 h3 _ fun u F2 H2 x2 g2 r2 => ?_
    have hy : y = .int i := by
      cases y <;> first | (cases h4; rfl) | cases h4
    subst hy
    have ha2 := x2.f.at ha
    obtain ⟨vs, hv, rv⟩ := g2.wd.lstAt ha2 h5
    obtain ⟨w, k1, k2⟩ := rv.get h6
    have hl := rv.length
    have hs : ds.length ≤ 16777216 := Nat.le_trans hz.2.2 (by rw [sizeLine_eq]; omega)
    refine ⟨a, vs, i, i.toNat, w, rfl, by rw [r2.w.int], hv, by omega, by omega, ?_, k1, ?_⟩
    · unfold seqIndex?
      rw [hl]
      have e1 : ¬ i < 0 := by omega
      have e2 : (decide (0 ≤ i) && decide (i < (ds.length : Int))) = true := by simp [hz.1, hz.2.1]
      simp [e1, hz.1, hz.2.1]
    · have nf : ¬ Fro (.lst vs) := by rintro ⟨_, _, z⟩; cases z
      have nf' : ¬ Fro (.lst (vs.eraseIdx i.toNat)) := by rintro ⟨_, _, z⟩; cases z
      exact q w F2 _ ((x1.trans x2).put ha2 hv nf nf') (g2.put ha2 hv nf (.lst upd_same (rv.erase i.toNat)) nf') k2
  · cases e
end
end MD

set_option Elab.async false
set_option linter.all false
set_option maxRecDepth 100000
set_option maxHeartbeats 1000000
namespace MD
open PySem L2
variable {ww : WW}
/-- where a thing is so -/
noncomputable def cif {α : Type} (p : Prop) (o : Option α) : Option α := @ite _ p (Classical.propDecidable p) o none
theorem cif_eq {α : Type} (p : Prop) [d : Decidable p] (o : Option α) : (if p then o else none) = cif p o := by
  unfold cif
  by_cases h : p
  · rw [if_pos h, if_pos h]
  · rw [if_neg h, if_neg h]
theorem cif_of {α : Type} {p : Prop} {o : Option α} (h : p) : cif p o = o := if_pos h
theorem of_cif {α : Type} {p : Prop} {o : Option α} {a : α} (h : cif p o = some a) : p ∧ o = some a := by
  unfold cif at h
  by_cases hp : p
  · rw [if_pos hp] at h; exact ⟨hp, h⟩
  · rw [if_neg hp] at h; cases h
section
variable {K : Fg} {dk : Dk} {F F' F0 : Fz} {H H' H0 : Hp} {σ σ' : L2.St} {env env' : Sg} {st st' st'' : S}
/-! ### for x in e, e a list of the store that stays meanwhile -/
noncomputable def forLc (n : Nat) (ds0 : List D) (t : MG) (b : MS) : List D → MS
  | [], env, st => cif (lstAt st n = some ds0) (some (.nx env, st))
  | d :: ds, env, st => cif (lstAt st n = some ds0) ((t d env).bind fun env1 => (b env1 st).bind fun p => match p.1 with
    | .nx e => forLc n ds0 t b ds e p.2
    | .ct e => forLc n ds0 t b ds e p.2
    | .bk e => some (.nx e, p.2)
    | .rt r => some (.rt r, p.2))
noncomputable def forR (f : ME) (t : MG) (b : MS) : MS := fun env st => (f env st).bind fun p => match p.1 with
  | .ref n => (lstAt p.2 n).bind fun ds => forLc n ds t b ds env p.2
  | d => (seqOf d).bind fun ds => forL t b ds env p.2
theorem is_forR {te : TE} {f : ME} {g : TG} {tb : TS} {t : MG} {b : MS} {is : List Nat} (h : Im K te f) (hg : ImG K g t is) (hb : ImS K tb b) : ImS K (tFor (iSeq K te) g tb) (forR f t b) := fun dk H0 F0 F σ H env st fl st' gd e E hd => by
  obtain ⟨⟨d, s1⟩, e1, e⟩ := bnd e
  by_cases hr : ∃ n, d = .ref n
  · obtain ⟨n, rfl⟩ := hr
    obtain ⟨ds, e2, e⟩ := bnd (show ((lstAt s1 n).bind fun ds => forLc n ds t b ds env s1) = some (fl, st') from e)
    refine h dk H0 F0 F σ H env st _ s1 gd e1 _ fun v F1 H1 x1 g1 r1 => ?_
    obtain ⟨a, rfl, ha⟩ := r1.refn
    obtain ⟨vs, hv, rv⟩ := g1.wd.lstAt ha e2
    refine .inl ⟨a, rfl, ⟨vs, SqL.of hv⟩, ?_⟩
    have hd1 := hd.mono x1.f
    let P : Nat → L2.St → Hp → Prop := fun i σ H => ∃ F2 env st, Le F1 F2 ∧ Good K dk H0 F0 F2 σ H env st ∧ forLc n ds t b (ds.drop i) env st = some (fl, st')
    refine ⟨fun i m σ H => m = ds.length - i ∧ i ≤ ds.length ∧ P i σ H, ⟨_, rfl, Nat.zero_le _, F1, env, s1, Le.refl F1, g1, e⟩, ?_⟩
    rintro i m σ2 H2 ⟨rfl, hle, F2, env2, s2, le2, g2, e3⟩
    by_cases hlt : i < ds.length
    · have hdi : ds[i]? = some ds[i] := List.getElem?_eq_getElem hlt
      rw [List.drop_eq_getElem_cons hlt] at e3
      obtain ⟨ck, e3⟩ := of_cif e3
      obtain ⟨us, hu, ru⟩ := g2.wd.lstAt (le2.at ha) ck
      obtain ⟨w, k1, k2⟩ := ru.get hdi
      refine .inr ⟨⟨us, w, SqL.of hu, k1⟩, P (i + 1), fun σ' H' hp => ⟨_, by omega, rfl, hlt, hp⟩, fun x H3 hx => ?_⟩
      obtain ⟨ee, e4⟩ := hx
      subst ee
      have ev := e4 us (SqL.of hu)
      rw [k1] at ev
      cases ev
      obtain ⟨env3, e5, e3⟩ := bnd e3
      obtain ⟨⟨fl3, s3⟩, e6, e3⟩ := bnd e3
      refine hg dk H0 F0 F2 σ2 _ env2 s2 w _ env3 g2 k2 e5 _ fun σ4 g4 _ => ?_
      refine hb dk H0 F0 F2 σ4 _ env3 s2 fl3 s3 g4 e6 _ ?_
      cases fl3 with
      | nx e7 => exact fun F5 σ5 H5 l5 g5 => ⟨F5, e7, s3, le2.trans l5, g5, e3⟩
      | ct e7 => exact fun F5 σ5 H5 l5 g5 => ⟨F5, e7, s3, le2.trans l5, g5, e3⟩
      | bk e7 =>
        cases e3
        exact fun F5 σ5 H5 l5 g5 => hd1 F5 σ5 H5 (le2.trans l5) g5
      | rt r =>
        cases e3
        exact hd1
    · have ei : i = ds.length := by omega
      subst ei
      rw [List.drop_length] at e3
      obtain ⟨ck, e3⟩ := of_cif e3
      cases e3
      obtain ⟨us, hu, ru⟩ := g2.wd.lstAt (le2.at ha) ck
      exact .inl ⟨⟨us, SqL.of hu, by rw [ru.length]; exact Nat.le_refl _⟩, hd1 F2 σ2 H2 le2 g2⟩
  · refine is_for (ii_seq h) hg hb dk H0 F0 F σ H env st fl st' gd ?_ E hd
    have ee : ((seqOf d).bind fun ds => forL t b ds env s1) = some (fl, st') := by
      cases d with
      | ref n => exact absurd ⟨n, rfl⟩ hr
      | _ => exact e
    obtain ⟨ds, e2, e3⟩ := bnd ee
    show ((seqI f env st).bind fun p => forL t b p.1 env p.2) = _
    have : seqI f env st = some (ds, s1) := by
      unfold seqI
      rw [e1]
      show (seqOf d).map _ = _
      rw [e2]; rfl
    rw [this]
    exact e3
end
end MD

set_option Elab.async false
set_option linter.all false
set_option maxRecDepth 100000
set_option maxHeartbeats 1000000
namespace MD
open PySem L2
variable {ww : WW}
/-! ### an expression whose value goes to a name: data, or a new thing of its own -/
abbrev MX := Sg → S → Option (Sl × S)
/-- what an argument gives, as it stands at F, H -/
def XOk (K : Fg) (dk : Dk) (F : Fz) (H H0 : Hp) (v : V) : Sl → Prop
  | .un => False
  | .cap _ => False
  | .val d => Rp K dk F v d
  | .own w => ∃ p vs, v = .ref p ∧ w.1.At H p vs ∧ F.out p ∧ H0 p = none ∧ p ≠ dk.1 ∧ p ≠ dk.2 ∧ Rps K dk F vs w.2
def ImX [WW] (K : Fg) (te : TE) (f : MX) : Prop := ∀ (dk : Dk) (H0 : Hp) (F0 F : Fz) (σ : L2.St) (H : Hp) (env : Sg) (st : S) (s : Sl) (st' : S), Good K dk H0 F0 F σ H env st → f env st = some (s, st') →
  ∀ Q : VK, (∀ v F' H', Ext dk F H F' H' → Good K dk H0 F0 F' σ H' env st' → XOk K dk F' H' H v s → Q v H') → te σ H Q
def xV (f : ME) : MX := fun env st => (f env st).map fun p => (.val p.1, p.2)
def xL (f : MA) : MX := fun env st => (f env st).map fun p => (.own (.lst, p.1), p.2)
def xK (f : MK) : MX := fun env st => (f env st).map fun p => (.own (.dic p.1.1, p.1.2), p.2)
section
variable {K : Fg} {dk : Dk} {F F' F0 : Fz} {H H' H0 : Hp} {σ σ' : L2.St} {env env' : Sg} {st st' st'' : S}
theorem Im.x {te : TE} {f : ME} (h : Im K te f) : ImX K te (xV f) := fun dk H0 F0 F σ H env st s st' g e Q q => by
  obtain ⟨⟨d, s1⟩, e1, e⟩ := mpd e
  cases e
  exact h dk H0 F0 F σ H env st d s1 g e1 Q fun v F1 H1 x1 g1 r1 => q v F1 H1 x1 g1 r1
theorem ImF.x {te : TE} {f : MA} (h : ImF K te f) : ImX K te (xL f) := fun dk H0 F0 F σ H env st s st' g e Q q => by
  obtain ⟨⟨ds, s1⟩, e1, e⟩ := mpd e
  cases e
  refine h dk H0 F0 F σ H env st ds s1 g e1 Q fun p vs F1 H1 x1 g1 hp fp hl r => ?_
  have nd := g.nedk hp
  exact q _ F1 H1 x1 g1 ⟨p, vs, rfl, hl, fp, hp, nd.1, nd.2, r⟩
theorem ImK.x {te : TE} {f : MK} (h : ImK K te f) : ImX K te (xK f) := fun dk H0 F0 F σ H env st s st' g e Q q => by
  obtain ⟨⟨⟨ks, ds⟩, s1⟩, e1, e⟩ := mpd e
  cases e
  refine h dk H0 F0 F σ H env st _ s1 g e1 Q fun p vs F1 H1 x1 g1 hp fp hl hl2 r => ?_
  have nd := g.nedk hp
  exact q _ F1 H1 x1 g1 ⟨p, vs, rfl, ⟨hl, hl2⟩, fp, hp, nd.1, nd.2, r⟩
theorem XOk.ext {v : V} {s : Sl} (h : XOk K dk F H H0 v s) (x : Ext dk F H F' H') : XOk K dk F' H' H0 v s := by
  cases s with
  | un => exact h
  | cap _ => exact h
  | val d => exact Rp.mono x.f h
  | own w =>
    obtain ⟨p, vs, h1, h2, h3, h4, h5, h6, h7⟩ := h
    exact ⟨p, vs, h1, h2.keep fun o e => x.h _ _ e h5 h6 (.inl h3.2), x.out h3 (by obtain ⟨o, ho⟩ := h2.some; exact nn ho), h4, h5, h6, h7.mono x.f⟩
/-- a slot gets it -/
theorem Good.setX {i : Nat} {v : V} {s : Sl} {Hb : Hp} (g : Good K dk H0 F0 F σ H env st) (h : XOk K dk F H Hb v s) (hb : ∀ p, Hb p = none → H0 p = none) (no : ∀ p, Hb p = none → ∀ (j : Nat) (es : Own), env[j]? = some (.own es) → σ[j]? ≠ some (some (.ref p))) :
    Good K dk H0 F0 F (σ.set i (some v)) H (env.set i s) st := by
  cases s with
  | un => exact h.elim
  | cap _ => exact h.elim
  | val d => exact g.set h
  | own w =>
    obtain ⟨p, vs, rfl, h2, h3, h4, h5, h6, h7⟩ := h
    exact g.setO h2 h3 (hb p h4) h5 h6 (no p h4) h7
def par2 (i j : Nat) (fa fb : MX) : MS := fun env st => (fa env st).bind fun p => (fb env p.2).map fun q => (.nx ((env.set i p.1).set j q.1), q.2)
theorem is_par2 {ta tb : TE} {fa fb : MX} (i j : Nat) (ha : ImX K ta fa) (hb : ImX K tb fb) : ImS K (tPar i j (tCons ta (tCons tb tNil))) (par2 i j fa fb) := fun dk H0 F0 F σ H env st fl st' g e E hd => by
  obtain ⟨⟨s1, t1⟩, e1, e⟩ := bnd e
  obtain ⟨⟨s2, t2⟩, e2, e⟩ := mpd e
  cases e
  refine ha dk H0 F0 F σ H env st s1 t1 g e1 _ fun v F1 H1 x1 g1 k1 => ?_
  refine hb dk H0 F0 F1 σ H1 env t1 s2 t2 g1 e2 _ fun u F2 H2 x2 g2 k2 => ?_
  refine ⟨v, u, rfl, hd F2 _ H2 (x1.f.trans x2.f) ?_⟩
  have g3 : Good K dk H0 F0 F2 (σ.set i (some v)) H2 (env.set i s1) t2 := g2.setX (k1.ext x2) (fun p hp => g.fresh0 hp) fun p hp => g.noown hp
  refine g3.setX k2 (fun p hp => g1.fresh0 hp) fun p hp jj es hj z => ?_
  by_cases hi : i = jj
  · subst hi
    have hl : i < env.length := by
      by_cases hl : i < env.length
      · exact hl
      · rw [List.getElem?_eq_none (by rw [List.length_set]; omega)] at hj; cases hj
    rw [List.getElem?_set_self hl] at hj
    rw [List.getElem?_set_self (by rw [g.len]; exact hl)] at z
    cases hj
    cases z
    obtain ⟨p', vs, ep, h2, _⟩ := k1
    cases ep
    obtain ⟨o, ho⟩ := h2.some
    rw [hp] at ho; cases ho
  · rw [List.getElem?_set_ne hi] at hj z
    exact g1.noown hp jj es hj z
end
end MD

set_option Elab.async false
set_option linter.all false
set_option maxRecDepth 100000
set_option maxHeartbeats 1000000
namespace MD
open PySem PyProof.Rows L2
variable {ww : WW}
theorem units1 {n : Nat} (h : n + 64 < cLine) : n + 1 < cLine := by omega
theorem ps_or2 {X : Cx} {st : Stmt} {t : TE} {i : Nat} (h : PS X st (tLock (tAsg t (gName i)))) (h' : PS X st (tAsg t (gName i))) : PS X st (tAsg (fun σ H Q => tLockE t σ H Q ∨ t σ H Q) (gName i)) := ps_or h h'
/-- a def that is not yet known to keep anything -/
theorem fn0 {P : Program} {w : World} {K : Fg} {mg : Str → Option Value} {base : Heap} {k n : Nat} {f : Addr} {fd : FuncData} {ps : List Str} (h : n = ps.length) : FnG P w K mg base k f fd ps (spD K n fun _ _ => none) :=
  ⟨fun vs H Q E q => q.1.trans h, fun A outer s H args us vs Q E _ _ _ _ _ q => by
    obtain ⟨_, _, _, _, _, _, _, _, _, z, _⟩ := q
    cases z⟩
section
variable {K : Fg} {dk : Dk} {F F' F0 : Fz} {H H' H0 : Hp} {σ σ' : L2.St} {env env' : Sg} {st st' st'' : S}
def min2M : List D → Option D
  | [.int m, .int n] => some (.int (if n < m then n else m))
  | _ => none
def max2M : List D → Option D
  | [.int m, .int n] => some (.int (if n > m then n else m))
  | _ => none
theorem rc_min2 : RC K (fun xs H Q => ∃ m n, xs = [V.int m, V.int n] ∧ Q (.int (if n < m then n else m)) H) min2M := by
  intro dk F H st vs ds z w rx hz Q q
  unfold min2M at hz
  split at hz
  · cases hz
    obtain ⟨v, u, rfl, r1, r2⟩ := rx.two
    cases r1.int
    cases r2.int
    exact ⟨_, _, rfl, q _ F H (Px.refl w.sub) (.int _)⟩
  · cases hz
theorem rc_max2 : RC K (fun xs H Q => ∃ m n, xs = [V.int m, V.int n] ∧ Q (.int (if n > m then n else m)) H) max2M := by
  intro dk F H st vs ds z w rx hz Q q
  unfold max2M at hz
  split at hz
  · cases hz
    obtain ⟨v, u, rfl, r1, r2⟩ := rx.two
    cases r1.int
    cases r2.int
    exact ⟨_, _, rfl, q _ F H (Px.refl w.sub) (.int _)⟩
  · cases hz
/-! a new list by * -/
def lstMul : D → D → Option (List D)
  | .lst ds, .int k => if ds.length ≤ 1000 ∧ -1000 ≤ k ∧ k ≤ 1000 then some (List.replicate k.toNat ds).flatten else none
  | _, _ => none
theorem rof_mul : ROF K rRep lstMul := by
  intro dk F H st x y d e z w rx ry hz Q q
  unfold lstMul at hz
  split at hz
  · rename_i ds k
    split at hz
    · rename_i hc
      cases hz
      obtain ⟨p, vs, rfl, hp, r⟩ := rx.l w.sub
      cases ry.int
      refine ⟨p, k, vs, rfl, rfl, hp, by omega, by omega, ?_, fun a ha => q a _ ha (r.rep k.toNat)⟩
      rw [r.length, sizeLine_eq]
      have a1 : ds.length * k.toNat ≤ 1000 * 1000 := Nat.mul_le_mul hc.1 (by omega)
      omega
    · cases hz
  · cases hz
@[simp] theorem v_opF {g : D → D → Option (List D)} {fa fb : ME} {env : Sg} {st : S} : opF g fa fb env st = (fa env st).bind fun p => (fb env p.2).bind fun q => (g (dr q.2 p.1) (dr q.2 q.1)).map fun z => (z, q.2) := (rfl)
/-! xs[i] = e, of a name's own list -/
def lsetM (i : Nat) (fk fv : ME) : MS := fun env st => match env[i]? with
  | some (.own (.lst, ds)) => (fv env st).bind fun p => (fk env p.2).bind fun q => (intOf q.1).bind fun k => (ixN ds.length k).map fun j => (.nx (env.set i (.own (.lst, ds.set j p.1))), q.2)
  | _ => none
@[simp] theorem v_lsetM {i : Nat} {fk fv : ME} {env : Sg} {st : S} : lsetM i fk fv env st = (match env[i]? with
  | some (.own (.lst, ds)) => (fv env st).bind fun p => (fk env p.2).bind fun q => (intOf q.1).bind fun k => (ixN ds.length k).map fun j => (.nx (env.set i (.own (.lst, ds.set j p.1))), q.2)
  | _ => none) := (rfl)
theorem is_lset {ty tv : TE} {fk fv : ME} (i : Nat) (hk : ImW K ty fk) (hv : Im K tv fv) : ImS K (tAsg tv (gSub (tVar i) ty rSetL)) (lsetM i fk fv) := fun dk H0 F0 F σ H env st fl st' g e E hd => by
  unfold lsetM at e
  split at e
  · rename_i ds he
    obtain ⟨⟨d, s1⟩, e1, e⟩ := bnd e
    obtain ⟨⟨y, s2⟩, e2, e⟩ := bnd e
    obtain ⟨k, e3, e⟩ := bnd e
    obtain ⟨j, e4, e⟩ := mpd e
    cases e
    obtain ⟨p, vs, h1, h2, h3, h4, h5, h6, h7⟩ := g.sl i _ he
    refine hv dk H0 F0 F σ H env st d s1 g e1 _ fun v F1 H1 x1 g1 r1 => ?_
    refine ⟨.ref p, join_eq h1, hk dk H0 F0 F1 σ H1 env s1 y s2 g1 e2 _ fun u F2 H2 x2 g2 r2 => ?_⟩
    have x12 := x1.trans x2
    have hy : y = .int k := by
      cases y <;> first | (cases e3; rfl) | cases e3
    subst hy
    refine ⟨p, vs, k, j, rfl, r2.w.int, x12.h _ _ h2 h5 h6 (.inl h3.2), by rw [h7.length]; exact e4, ?_⟩
    exact hd F2 σ _ x12.f (g2.mut (ds' := (.lst, ds.set j d)) he (join_eq h1) upd_same (Rps.set (r1.mono x2.f) j (h7.mono x12.f)))
  · cases e
@[simp] theorem v_par2 {i j : Nat} {fa fb : MX} {env : Sg} {st : S} : par2 i j fa fb env st = (fa env st).bind fun p => (fb env p.2).map fun q => (.nx ((env.set i p.1).set j q.1), q.2) := (rfl)
@[simp] theorem v_xV {f : ME} {env : Sg} {st : S} : xV f env st = (f env st).map fun p => (Sl.val p.1, p.2) := (rfl)
@[simp] theorem v_xL {f : MA} {env : Sg} {st : S} : xL f env st = (f env st).map fun p => (Sl.own (.lst, p.1), p.2) := (rfl)
@[simp] theorem v_xK {f : MK} {env : Sg} {st : S} : xK f env st = (f env st).map fun p => (Sl.own (.dic p.1.1, p.1.2), p.2) := (rfl)
/-! dict(list of pairs) -/
def prsD : List D → Option (List (Key × D))
  | [] => some []
  | .tup [k, d] :: r => (keyOf k).bind fun k => (prsD r).map ((k, d) :: ·)
  | _ => none
def prsK (f : ME) : MK := fun env st => (f env st).bind fun p => match p.1 with
  | .lst ds => (prsD ds).map fun l => (mrgL [] [] l, p.2)
  | _ => none
theorem prs_ok (s : Sb F H) : ∀ {vs : List V} {ds : List D} {l : List (Key × D)}, Rps K dk F vs ds → prsD ds = some l → ∃ (ps : List Addr) (kvs : List (Key × V)), vs = ps.map V.ref ∧ Paired (fun p kv => SqT K H p [kV kv.1, kv.2]) ps kvs ∧ Rpk K dk F kvs l
  | _, [], l, .nil, h => by cases h; exact ⟨[], [], rfl, .nil, .nil⟩
  | v :: vs, d :: ds, l, .cons a b, h => by
    unfold prsD at h
    split at h
    · rename_i hh; cases hh
    · rename_i k e r hh
      cases hh
      obtain ⟨k', h1, h⟩ := bnd h
      obtain ⟨l', h2, h⟩ := mpd h
      subst h
      cases a with
      | tup hq rr =>
        cases rr with
        | cons q1 q2 => cases q2 with
          | cons q2 q3 =>
            cases q3
            obtain ⟨ps, kvs, e1, e2, e3⟩ := prs_ok s b h2
            refine ⟨_ :: ps, (k', _) :: kvs, by rw [e1]; rfl, .cons ?_ e2, .cons q2 e3⟩
            have := keyOf_rw (H := H) (.rp q1) h1
            rw [← this]
            exact s.sqT hq
    · cases h
theorem ik_prs {te : TE} {f : ME} (h : Im K te f) : ImK K (tCB (fun xs H Q => ∃ (a : Addr) (ps : List Addr) (kvs : List (Key × V)), xs = [.ref a] ∧ SqL K H a (ps.map V.ref) ∧ Paired (fun p kv => SqT K H p [kV kv.1, kv.2]) ps kvs ∧
    ∀ p, H p = none → Q (.ref p) (upd H p (.dK (mergeK [] kvs)))) (tCons te tNil)) (prsK f) := fun dk H0 F0 F σ H env st kd st' g e Q q => by
  obtain ⟨⟨x, s1⟩, h1, e⟩ := bnd e
  refine h dk H0 F0 F σ H env st x s1 g h1 _ fun v F1 H1 x1 g1 r1 => ?_
  cases x with
  | lst ds =>
    obtain ⟨l, h2, e⟩ := mpd (show (prsD ds).map (fun l => (mrgL [] [] l, s1)) = some (kd, st') from e)
    cases e
    cases r1 with
    | lst ha r =>
      obtain ⟨ps, kvs, e1, e2, e3⟩ := prs_ok g1.wd.sub r h2
      subst e1
      refine ⟨_, ps, kvs, rfl, SqL.of (g1.wd.sub.lst ha), e2, fun p hp => ?_⟩
      have px : Px F1 H1 F1 (upd H1 p (.dK (mergeK [] kvs))) := Px.lay g1.wd.sub hp
      obtain ⟨z1, z2⟩ := mrg_zip kvs [] [] rfl
      obtain ⟨y1, y2⟩ := mrg_rps (K := K) (dk := dk) (F := F1) [] e3 Rps.nil
      exact q p (mrgL [] [] kvs).2 F1 _ (x1.trans px.ext) (g1.px px) (x1.back hp) (g1.wd.out hp) (by rw [upd_same, ← y1]; exact congrArg (fun z => some (HO.dK z)) z1) (by rw [← y1]; exact z2) y2
  | _ => cases e
end
end MD

set_option Elab.async false
set_option linter.all false
set_option maxRecDepth 100000
set_option maxHeartbeats 1000000
namespace MD
open PySem L2
variable {ww : WW}
/-! ### a < b of data -/
def rLtD (K : Fg) : R2 := fun x y H Q => ∃ d e, Dp K H x d ∧ Dp K H y e ∧ PySem.W.alike d e = true ∧ d ≠ .none ∧ d.depth ≤ 60 ∧ Q (.bl (PySem.W.dataLt d e)) H
theorem op_ltD {X : Cx} (hu : X.A.units + 64 < cLine) : OpR X (compareOp .Lt) (rLtD X.K) := by
  intro pins s σ H x y v u Q I rx ry h
  obtain ⟨d, e, hd, he, hal, hn, hdp, q⟩ := h
  obtain ⟨as, r1⟩ := Dp.reads I _ _ _ hd rx
  obtain ⟨bs, r2⟩ := Dp.reads I _ _ _ he ry
  exact PySem.W.rcLt_alike d e X.A s v u as bs r1 r2 hal hn (by omega) X.prog X.w _ _ ⟨.bl _, H, I, rfl, q⟩
def rLtA (K : Fg) : R2 := fun x y H Q => rI0 (fun i j => .bl (decide (i < j))) x y H Q ∨ rLtD K x y H Q
theorem op_ltA {X : Cx} (hu : X.A.units + 64 < cLine) : OpR X (compareOp .Lt) (rLtA X.K) := OpR.or op_lt (op_ltD hu)
def ltA : D → D → Option D
  | .int i, .int j => some (.bl (decide (i < j)))
  | .tup a, .tup b => if (D.tup a).pl && (D.tup b).pl && PySem.W.alike (D.tup a).py (D.tup b).py && decide ((D.tup a).py.depth ≤ 60) then some (.bl (PySem.W.dataLt (D.tup a).py (D.tup b).py)) else none
  | _, _ => none
section
variable {K : Fg} {dk : Dk} {F F' F0 : Fz} {H H' H0 : Hp}
theorem ro_ltA : RO K (rLtA K) ltA := by
  intro dk F H st x y d e z w rx ry hz Q q
  unfold ltA at hz
  split at hz
  · exact .inl (ro_lt dk F H st x y _ _ z w rx ry hz Q q)
  · split at hz
    · rename_i ho
      cases hz
      simp only [Bool.and_eq_true, decide_eq_true_eq] at ho
      refine .inr ⟨_, _, rx.dp w.sub ho.1.1.1, ry.dp w.sub ho.1.1.2, ho.1.2, ?_, ho.2, q _ F H (Px.refl w.sub) (.bl _)⟩
      intro z
      rw [D.py] at z
      cases z
    · cases hz
  · cases hz
end
/-! (number, text) < (number, text) -/
@[simp] theorem v_ltI {i j : Int} : ltA (.int i) (.int j) = some (.bl (decide (i < j))) := (rfl)
theorem lt_pair (i j : Int) (x y : Str) : ltA (.tup [.int i, .str x]) (.tup [.int j, .str y]) = some (.bl (decide (i < j ∨ (i = j ∧ x.cps.toList < y.cps.toList)))) := by
  have e : PySem.W.dataLt (D.tup [.int i, .str x]).py (D.tup [.int j, .str y]).py = decide (i < j ∨ (i = j ∧ x.cps.toList < y.cps.toList)) := by
    show PyProof.Rows.lexLt PyProof.Rows.itemOrd [.inl 1, .inl i, .inl 1, .inr x.cps.toList, .inl 0] [.inl 1, .inl j, .inl 1, .inr y.cps.toList, .inl 0] = _
    rw [PyProof.Rows.lex_self]
    by_cases hij : i = j
    · subst hij
      rw [PyProof.Rows.lex_self, PyProof.Rows.lex_self]
      by_cases hxy : x.cps.toList = y.cps.toList
      · rw [hxy, PyProof.Rows.lex_self, PyProof.Rows.lex_irrefl]
        have h1 : ¬ y.cps.toList < y.cps.toList := List.lt_irrefl _
        simp [h1]
      · rw [PyProof.Rows.lex_diff (fun z => hxy (Sum.inr.inj z))]
        show decide (x.cps.toList < y.cps.toList) = _
        simp
    · rw [PyProof.Rows.lex_diff (fun z => hij (Sum.inl.inj z))]
      show decide (i < j) = _
      simp [hij]
  show (if (D.tup [.int i, .str x]).pl && (D.tup [.int j, .str y]).pl && PySem.W.alike (D.tup [.int i, .str x]).py (D.tup [.int j, .str y]).py && decide ((D.tup [.int i, .str x]).py.depth ≤ 60) then some (D.bl (PySem.W.dataLt (D.tup [.int i, .str x]).py (D.tup [.int j, .str y]).py)) else none) = _
  rw [e, if_pos]
  have h2 : (D.tup [.int i, .str x]).py.depth ≤ 60 := by simp [D.py, pyAll, PyData.depth, PyData.depthAll]
  rw [decide_eq_true h2]
  simp [D.pl, plAll, D.py, pyAll, PySem.W.alike, PySem.W.alikeAll]
end MD

set_option Elab.async false
set_option linter.all false
namespace MD
open PySem PySem.Spec PyProof.Rows L2
variable {ww : WW}
variable {K : Fg} {dk : Dk} {F : Fz}
/-! ### list(range(..)) -/
theorem rps_rg (a b : Int) : Rps K dk F (rgV a b) (rngD a (b - a).toNat) := by
  unfold rgV rngD
  generalize List.range (b - a).toNat = xs
  induction xs with
  | nil => exact .nil
  | cons x xs ih => exact .cons (.int _) ih
theorem fin_rg {H0 : Hp} {F0 : Fz} {σ : L2.St} {H : Hp} {env : Sg} {st : S} {a b : Int} (g : Good K dk H0 F0 F σ H env st) {Q : VK}
    (q : ∀ p vs F' H', Ext dk F H F' H' → Good K dk H0 F0 F' σ H' env st → H p = none → F'.out p → H' p = some (.lst vs) → Rps K dk F' vs (rngD a (b - a).toNat) → Q (.ref p) H') :
    ∀ p, H p = none → Q (.ref p) (upd H p (.lst (rgV a b))) := fun p hp => by
  have px : Px F H F (upd H p (.lst (rgV a b))) := Px.lay g.wd.sub hp
  exact q p _ F _ px.ext (g.px px) hp (g.wd.out hp) upd_same (rps_rg a b)
def lrg1M (a : ME) : MA := fun env st => (a env st).bind fun p => match p.1 with
  | .int j => if 0 ≤ j ∧ j ≤ 1000000 then some (rngD 0 (j - 0).toNat, p.2) else none
  | _ => none
def lrg2M (a b : ME) : MA := fun env st => (a env st).bind fun p => (b env p.2).bind fun r => match p.1, r.1 with
  | .int i, .int j => if 0 ≤ i ∧ i ≤ 1000000 ∧ 0 ≤ j ∧ j ≤ 1000000 then some (rngD i (j - i).toNat, r.2) else none
  | _, _ => none
theorem if_lrg1 {ta : TE} {a : ME} (ha : Im K ta a) : ImF K (tLstRg (tRg1 ta)) (lrg1M a) := fun dk H0 F0 F σ H env st d st' g e Q q => by
  obtain ⟨⟨x, s1⟩, h1, e⟩ := bnd e
  refine ha dk H0 F0 F σ H env st x s1 g h1 _ fun v F1 H1 x1 g1 r1 => ?_
  dsimp only at e
  split at e
  · split at e
    · rename_i j hj
      cases e
      cases r1
      exact ⟨j, rfl, RgOk.of_le (by omega) (by omega) (by omega) (by omega), fin_rg g1 fun p vs F' H' x2 g2 hp => q p vs F' H' (x1.trans x2) g2 (x1.back hp)⟩
    · cases e
  · cases e
theorem if_lrg2 {ta tb : TE} {a b : ME} (ha : Im K ta a) (hb : Im K tb b) : ImF K (tLstRg (tRg2 ta tb)) (lrg2M a b) := fun dk H0 F0 F σ H env st d st' g e Q q => by
  obtain ⟨⟨x, s1⟩, h1, e⟩ := bnd e
  obtain ⟨⟨y, s2⟩, h2, e'⟩ := bnd e
  clear e
  refine ha dk H0 F0 F σ H env st x s1 g h1 _ fun v F1 H1 x1 g1 r1 => ?_
  refine hb dk H0 F0 F1 σ H1 env s1 y s2 g1 h2 _ fun u F2 H2 x2 g2 r2 => ?_
  dsimp only at e'
  split at e'
  · split at e'
    · rename_i i j hj
      cases e'
      cases r1
      cases r2
      exact ⟨i, j, rfl, rfl, RgOk.of_le (by omega) (by omega) (by omega) (by omega), fin_rg g2 fun p vs F' H' x3 g3 hp => q p vs F' H' ((x1.trans x2).trans x3) g3 ((x1.trans x2).back hp)⟩
    · cases e'
  · cases e'
end MD

set_option Elab.async false
set_option linter.all false
namespace MD
open PySem PySem.Spec PyProof.Rows L2
variable {ww : WW}
/-! ### tests of k in d, k not in d -/
theorem pt_or {X : Cx} {e : Expr} {t t' : TE} (h : PT X e (tTest t)) (h' : PT X e (tTest t')) : PT X e (tTest fun σ H Q => t σ H Q ∨ t' σ H Q) :=
  ⟨fun pins s σ H Q I q => q.elim (h.run pins s σ H Q I) (h'.run pins s σ H Q I)⟩
theorem pt_in {X : Cx} {a b : Expr} {pos : Pos} {ta tb : TE} (hu : X.A.units + 1 < cLine) (ha : PE X a ta) (hb : PE X b tb) (hm : behindInMarks .In b = false := by rfl) : PT X (.Compare a [.In] [b] pos) (tTest (tIn X.K ta tb)) :=
  pt_or (pt_cmp (pc_din hu ha hb) hm) (pt_cmpR op_inA ha hb hm)
theorem pt_notIn {X : Cx} {a b : Expr} {pos : Pos} {ta tb : TE} (hu : X.A.units + 1 < cLine) (ha : PE X a ta) (hb : PE X b tb) (hm : behindInMarks .NotIn b = false := by rfl) : PT X (.Compare a [.NotIn] [b] pos) (tTest (tNotIn X.K ta tb)) :=
  pt_or (pt_cmp (pc_dnotin hu ha hb) hm) (pt_cmpR op_notInA ha hb hm)
/-! ### name = {..}, a comprehension, the name a local -/
section
variable {X : Cx}
theorem sw_trueD {kx vx : Expr} {gs : List Comprehension} {scope : Scope} {pos py : Pos} {y : Str} {l : Nat} {env : Env} (hk : env.scope.kind = .function) (hy : env.scope.names.lookup y = some .local) (hl : (py.line == pos.line) = true)
    (ha : (scope.names.any fun (n, k) => n == y && (k == .local || k == .cell)) = false) : swapsWith (.DictComp kx vx gs scope pos) (some (.Name y py)) l env = pure true := by
  have ky : env.kindOf y = some .local := hy
  have hb : env.blockKind = .function := by unfold Env.blockKind; rw [hk]; rfl
  unfold swapsWith
  simp only [hb, ky, ha, Expr.pos, hl]
  rfl
theorem ps_setDc {i : Nat} {y : Str} {py : Pos} {kx vx tg iter : Expr} {ifs : List Expr} {scope : Scope} {own : List (Str × Nat)} {pos spos : Pos} {wi : TI} {g : TG} {tt : TT} {tk tv : TE} (hc : X.calm = true) (hN : X.N.Nodup) (hy : X.N[i]? = some y) (hyl : X.env.scope.names.lookup y = some .local)
    (hsw : swapsWith (.DictComp kx vx [⟨tg, iter, ifs, 0⟩] scope pos) (some (.Name y py)) spos.line X.env = pure true) (hi : PI X tg iter wi) (ok : BlkOk X.N X.env.scope scope own)
    (hg : ∀ (s : Shared) (H : Hp) (C : Addr) (cl : List (Str × Addr)) (fp : List Addr), PG (X.blk s H scope (compEnvC scope cl C X.env) fp) tg g) (ht : ∀ (s : Shared) (H : Hp) (C : Addr) (cl : List (Str × Addr)) (fp : List Addr), PTs (X.blk s H scope (compEnvC scope cl C X.env) fp) ifs tt)
    (hk : ∀ (s : Shared) (H : Hp) (C : Addr) (cl : List (Str × Addr)) (fp : List Addr), PE (X.blk s H scope (compEnvC scope cl C X.env) fp) kx tk)
    (he : ∀ (s : Shared) (H : Hp) (C : Addr) (cl : List (Str × Addr)) (fp : List Addr), PE (X.blk s H scope (compEnvC scope cl C X.env) fp) vx tv) (hs : ∀ x, foldedSetIterable iter X.env x = pure x := by intro _; rfl) :
    PS X (.Assign [.Name y py] (.DictComp kx vx [⟨tg, iter, ifs, 0⟩] scope pos) spos) (tAsg (tDc wi g tt tk tv (own.map (·.2))) (gName i)) := by
  refine ⟨fun pins s σ H D I h => ?_⟩
  rw [exec_Assign_Name_used _ _ _ _ hsw]
  refine wpAny_bind (wpAny_standAt (wpAny_bind ?_))
  show wpAny _ X.A (do let _ ← comprehension (.DictComp kx vx [⟨tg, iter, ifs, 0⟩] scope pos) scope X.env (firstIterPos [⟨tg, iter, ifs, 0⟩] pos) newDict false (eval iter X.env) (some (assign (.Name y py) X.env))) _ _ s
  have h : tDc wi g tt tk tv (own.map (·.2)) σ H (fun x H1 => gName i x σ H1 D.nx) := h
  refine wpAny_bind (thn (dc_core (Qf := fun _ s' => SP X pins D .next s') hc hN I hi ok hg ht hk he hs h fun L C s' m H' I' q hn f => ?_) fun _ s' hq => wpAny_pure (wpAny_pure hq))
  show wpAny _ _ (assign (.Name y py) X.env (.ref L)) _ _ _
  refine wpAny_assign_Name (store_ok2 (v := V.ref L) I' hN hy (.inl hyl) rfl (fun s2 I2 ⟨a, sb, ha⟩ => ?_) (.inr hyl))
  obtain ⟨f0, f1, f2, f3, f4, f5⟩ := f
  have haC : C ≠ a := by
    rcases ha with z | z
    · rw [z]; exact f1
    · exact fun e => f4 y a z e.symm
  refine ⟨m, hn.sameBut sb haC, fun h3 sb3 => ?_⟩
  exact ⟨_, H', I2.turned (t' := s2.toks) (fun b o hb e => (sb3.2 b hb).trans e) f0 f1 f3 f4 f5, q⟩
end
end MD

set_option Elab.async false
set_option linter.all false
set_option maxRecDepth 100000
set_option maxHeartbeats 1000000
namespace MD
open PySem PySem.Spec PyProof.Rows L2
variable {ww : WW}

/-! ### == with an empty list or tuple, whatever the other holds -/
def emE : D → D → Option Bool
  | .lst ds, .lst [] => some ds.isEmpty
  | .tup ds, .tup [] => some ds.isEmpty
  | _, _ => none
def eqN (d e : D) : Option D := (eqM d e).orElse fun _ => (emE d e).map D.bl
def neN (d e : D) : Option D := (neM d e).orElse fun _ => (emE d e).map fun b => D.bl (!b)
def Emp (K : Fg) (x y : V) (H : Hp) (b : Bool) : Prop :=
  ∃ a c xs, x = .ref a ∧ y = .ref c ∧ b = List.isEmpty xs ∧ ((SqL K H a xs ∧ SqL K H c []) ∨ (SqT K H a xs ∧ SqT K H c []))
def rEqE (K : Fg) : R2 := fun x y H Q => ∃ b, Emp K x y H b ∧ Q (.bl b) H
def rNeE (K : Fg) : R2 := fun x y H Q => ∃ b, Emp K x y H b ∧ Q (.bl (!b)) H
theorem vals_nil {its : List Value} (r : Vals [] its) : its = [] := by cases r; rfl
theorem emp_at {X : Cx} {pins : List (Addr × Obj)} {σ : List (Option V)} {H : Hp} {s : Shared} (I : Inv X pins σ H s) (hu : X.A.units + 64 < cLine) {x y : V} {v u : Value} {b : Bool} (h : Emp X.K x y H b) (rx : RelV x v) (ry : RelV y u) :
    SeqAt.RcAt X.A s v u b ∧ SeqAt.RcNeAt X.A s v u (!b) := by
  obtain ⟨a, c, xs, rfl, rfl, rfl, hh⟩ := h
  cases rx
  cases ry
  have hu1 : X.A.units < cLine := by omega
  rcases hh with ⟨h1, h2⟩ | ⟨h1, h2⟩
  · obtain ⟨its, r1, ⟨o, n, ho, hc, _, hd⟩, _⟩ := I.list h1
    obtain ⟨its2, r2, ⟨o2, n2, ho2, hc2, _, hd2⟩, _⟩ := I.list h2
    cases vals_nil r2
    have l1 : s.heap.IsList a its.toArray := ⟨o, ho, hc, n, hd⟩
    have l2 : s.heap.IsList c #[] := ⟨o2, ho2, hc2, n2, hd2⟩
    have hl := r1.length
    cases xs with
    | nil =>
      cases vals_nil r1
      exact ⟨SeqAt.RcAt.lists (e := fun _ => true) l1 l2 rfl hu1 (fun j h1 _ => absurd h1 (by simp)), SeqAt.RcNeAt.lists (e := fun _ => true) l1 l2 rfl hu1 (fun j h1 _ => absurd h1 (by simp))⟩
    | cons x xs =>
      have hz : (its.toArray.size != (#[] : Array Value).size) = true := by
        simp at hl ⊢
        intro z
        rw [z] at hl
        simp at hl
      exact ⟨SeqAt.RcAt.lists_lengths l1 l2 hz hu1, SeqAt.RcNeAt.lists_lengths l1 l2 hz hu1⟩
  · obtain ⟨its, r1, ⟨o, ho, hc, n, hd⟩, _⟩ := I.tuple h1
    obtain ⟨its2, r2, ⟨o2, ho2, hc2, n2, hd2⟩, _⟩ := I.tuple h2
    cases vals_nil r2
    have l1 : s.heap.IsTuple a its.toArray := ⟨o, ho, hc, n, hd⟩
    have l2 : s.heap.IsTuple c #[] := ⟨o2, ho2, hc2, n2, hd2⟩
    have hl := r1.length
    have q1 := SeqAt.RcAt.tuples (e := fun _ => true) l1 l2 hu1 (fun j _ h2 => absurd h2 (by simp))
    have q2 := SeqAt.RcNeAt.tuples (e := fun _ => true) l1 l2 hu1 (fun j _ h2 => absurd h2 (by simp))
    have hb : ((List.range (min its.toArray.size (#[] : Array Value).size)).all (fun _ => true) && its.toArray.size == (#[] : Array Value).size) = xs.isEmpty := by
      cases xs with
      | nil => cases vals_nil r1; rfl
      | cons x xs =>
        have : its ≠ [] := fun z => by rw [z] at hl; simp at hl
        cases its with
        | nil => exact absurd rfl this
        | cons _ _ => simp
    rw [hb] at q1 q2
    exact ⟨q1, q2⟩
theorem op_eqE {X : Cx} (hu : X.A.units + 64 < cLine) : OpR X (compareOp .Eq) (rEqE X.K) := by
  intro pins s σ H x y v u Q I rx ry h
  obtain ⟨b, hb, q⟩ := h
  exact (emp_at I hu hb rx ry).1 X.prog X.w _ _ ⟨.bl b, H, I, rfl, q⟩
theorem op_neE {X : Cx} (hu : X.A.units + 64 < cLine) : OpR X (compareOp .NotEq) (rNeE X.K) := by
  intro pins s σ H x y v u Q I rx ry h
  obtain ⟨b, hb, q⟩ := h
  exact (emp_at I hu hb rx ry).2 X.prog X.w _ _ ⟨.bl (!b), H, I, rfl, q⟩
section
variable {K : Fg}
theorem emE_ok {dk : Dk} {F : Fz} {H : Hp} (s : Sb F H) {x y : V} {d e : D} {b : Bool} (rx : Rw K dk F H x d) (ry : Rw K dk F H y e) (h : emE d e = some b) : Emp K x y H b := by
  unfold emE at h
  split at h
  · cases h
    obtain ⟨p, vs, rfl, h1, r1⟩ := rx.l s
    obtain ⟨q, us, rfl, h2, r2⟩ := ry.l s
    cases r2
    refine ⟨p, q, vs, rfl, rfl, ?_, .inl ⟨SqL.of h1, SqL.of h2⟩⟩
    cases r1 <;> rfl
  · cases h
    obtain ⟨p, vs, rfl, h1, r1⟩ := rx.tup s
    obtain ⟨q, us, rfl, h2, r2⟩ := ry.tup s
    cases r2
    refine ⟨p, q, vs, rfl, rfl, ?_, .inr ⟨h1, h2⟩⟩
    cases r1 <;> rfl
  · cases h
theorem ro_eqE : RO K (rEqE K) (fun d e => (emE d e).map D.bl) := by
  intro dk F H st x y d e z w rx ry hz Q q
  obtain ⟨b, hb, rfl⟩ := mpd hz
  exact ⟨b, emE_ok w.sub rx ry hb, q (.bl b) F H (Px.refl w.sub) (.bl b)⟩
theorem ro_neE : RO K (rNeE K) (fun d e => (emE d e).map fun b => D.bl (!b)) := by
  intro dk F H st x y d e z w rx ry hz Q q
  obtain ⟨b, hb, rfl⟩ := mpd hz
  exact ⟨b, emE_ok w.sub rx ry hb, q (.bl (!b)) F H (Px.refl w.sub) (.bl (!b))⟩
def rEqN (K : Fg) : R2 := fun x y H Q => rEqA K x y H Q ∨ rEqE K x y H Q
def rNeN (K : Fg) : R2 := fun x y H Q => rNeA K x y H Q ∨ rNeE K x y H Q
theorem ro_eqN : RO K (rEqN K) eqN := ro_eq.or ro_eqE
theorem ro_neN : RO K (rNeN K) neN := ro_ne.or ro_neE
end
theorem op_eqN {X : Cx} (hu : X.A.units + 64 < cLine) : OpR X (compareOp .Eq) (rEqN X.K) := OpR.or (op_eqA hu) (op_eqE hu)
theorem op_neN {X : Cx} (hu : X.A.units + 64 < cLine) : OpR X (compareOp .NotEq) (rNeN X.K) := OpR.or (op_neA hu) (op_neE hu)

/-! ### repr of data in which empty dicts lie -/
mutual
inductive Rds (h : Heap) : Value → PyData → Prop
  | none : Rds h .none .none
  | bool (b : Bool) : Rds h (.bool b) (.bool b)
  | int (i : Int) (t : Tok) : Rds h (.int i t) (.int i)
  | str (x : Str) (t : Tok) : Rds h (.str x t) (.str x)
  | list {a : Addr} {o : Obj} {vs : List Value} {n : Nat} {xs : List PyData} : h.get? a = some o → o.cls = .type "list" → o.data = .seq vs.toArray n → RdsAll h vs xs → Rds h (.ref a) (.list xs)
  | tuple {a : Addr} {o : Obj} {vs : List Value} {n : Nat} {xs : List PyData} : h.get? a = some o → o.cls = .type "tuple" → o.data = .seq vs.toArray n → RdsAll h vs xs → Rds h (.ref a) (.tuple xs)
  | dict0 {a : Addr} {o : Obj} {n : Nat} : h.get? a = some o → o.cls = .type "dict" → o.data = .dict #[] n → (a == sysModules) = false → Rds h (.ref a) (.dict [])
inductive RdsAll (h : Heap) : List Value → List PyData → Prop
  | nil : RdsAll h [] []
  | cons {v : Value} {vs : List Value} {d : PyData} {ds : List PyData} : Rds h v d → RdsAll h vs ds → RdsAll h (v :: vs) (d :: ds)
end
mutual
theorem Rds.reads {h : Heap} : ∀ {v : Value} {d : PyData}, Rds h v d → ∃ as, Reads h v d as
  | _, _, .none => ⟨_, .none⟩
  | _, _, .bool b => ⟨_, .bool b⟩
  | _, _, .int i t => ⟨_, .int i t⟩
  | _, _, .str x t => ⟨_, .str x t⟩
  | _, _, .list h1 h2 h3 h4 => by
    obtain ⟨as, r⟩ := h4.reads
    exact ⟨_, .list h1 h2 h3 (by simpa using r)⟩
  | _, _, .tuple h1 h2 h3 h4 => by
    obtain ⟨as, r⟩ := h4.reads
    exact ⟨_, .tuple h1 h2 h3 (by simpa using r)⟩
  | _, _, .dict0 h1 h2 h3 _ => ⟨_, .dict (kvs := []) h1 h2 h3 .nil .nil⟩
theorem RdsAll.reads {h : Heap} : ∀ {vs : List Value} {ds : List PyData}, RdsAll h vs ds → ∃ as, ReadsAll h vs ds as
  | _, _, .nil => ⟨_, .nil⟩
  | _, _, .cons r rs => by
    obtain ⟨as, q⟩ := r.reads
    obtain ⟨bs, qs⟩ := rs.reads
    exact ⟨_, .cons q qs⟩
end
section
variable {prog : Program} {w : World} {h₀ : Heap}
mutual
theorem reprK_of {h₀ : Heap} : ∀ {v : Value} {d : PyData}, Rds h₀ v d → d.showable = true → d.shown.length ≤ sizeLine → ∃ bs, ReadAtMost h₀ d.depth bs ∧ ReprK prog w bs h₀ d.depth v d.shown
  | _, _, .none, _, _ => ⟨[], (fun _ h => nomatch h), by simp only [PyData.shown]; exact .of_is ReprIs.none _ _ _⟩
  | _, _, .bool b, _, _ => ⟨[], (fun _ h => nomatch h), by simp only [PyData.shown]; exact .of_is (ReprIs.bool b) _ _ _⟩
  | _, _, .int i t, hs, _ => ⟨[], (fun _ h => nomatch h), by simp only [PyData.shown]; exact .of_is (ReprIs.int t (by simpa [PyData.showable] using hs)) _ _ _⟩
  | _, _, .str x t, _, hz => ⟨[], (fun _ h => nomatch h), by simp only [PyData.shown]; exact .of_is (ReprIs.str x t (by simpa only [PyData.shown] using hz)) _ _ _⟩
  | _, _, .list (a := a) (vs := vs) (xs := xs) h1 h2 h3 h4, hs, hz => by
    have hz' : (listText (PyData.shownAll xs)).length ≤ sizeLine := by simpa only [PyData.shown] using hz
    obtain ⟨bs, hb, hk⟩ := reprAllK_of h4 (by simpa [PyData.showable] using hs) (fun t ht => Nat.le_trans (listText_mem_le ht) hz')
    obtain ⟨as, r⟩ := (Rds.list h1 h2 h3 h4).reads
    have hna : a ∉ bs := not_mem_of_deeper r (by simp only [PyData.depth]; omega) hb
    refine ⟨a :: bs, ReadAtMost.cons r (by simp only [PyData.depth]; omega) hb, ?_⟩
    simp only [PyData.depth, PyData.shown]
    cases h4 with
    | nil =>
      simp only [PyData.shownAll, listText_nil]
      exact ReprK.listEmpty h1 h2 h3
    | cons q qs => exact ReprK.list h1 h2 h3 hna (by simpa using hk.length_eq) (fun i y e => hk.item i y (by simpa using e))
  | _, _, .tuple (a := a) (xs := xs) h1 h2 h3 h4, hs, hz => by
    have hz' : (tupleText (PyData.shownAll xs)).length ≤ sizeLine := by simpa only [PyData.shown] using hz
    obtain ⟨bs, hb, hk⟩ := reprAllK_of h4 (by simpa [PyData.showable] using hs) (fun t ht => Nat.le_trans (tupleText_mem_le ht) hz')
    obtain ⟨as, r⟩ := (Rds.tuple h1 h2 h3 h4).reads
    have hna : a ∉ bs := not_mem_of_deeper r (by simp only [PyData.depth]; omega) hb
    refine ⟨a :: bs, ReadAtMost.cons r (by simp only [PyData.depth]; omega) hb, ?_⟩
    simp only [PyData.depth, PyData.shown]
    exact ReprK.tuple h1 h2 h3 hna (by simpa using hk)
  | _, _, .dict0 (a := a) h1 h2 h3 hsys, _, _ => by
    obtain ⟨as, r⟩ := (Rds.dict0 h1 h2 h3 hsys).reads
    refine ⟨a :: [], ReadAtMost.cons (n := 0) r (Nat.zero_le _) (fun _ h => nomatch h), ?_⟩
    have := ReprK.dict (prog := prog) (w := w) (as := []) (d := 0) (ps := []) h1 h2 h3 hsys (fun h => nomatch h) .nil
    simpa [PyData.depth, PyData.depthKv, PyData.shown, PyData.shownKv] using this
theorem reprAllK_of {h₀ : Heap} : ∀ {vs : List Value} {ds : List PyData}, RdsAll h₀ vs ds → PyData.showableAll ds = true → (∀ t ∈ PyData.shownAll ds, t.length ≤ sizeLine) →
    ∃ bs, ReadAtMost h₀ (PyData.depthAll ds) bs ∧ ReprAllK prog w bs h₀ (PyData.depthAll ds) vs (PyData.shownAll ds)
  | _, _, .nil, _, _ => ⟨[], (fun _ h => nomatch h), by simp only [PyData.shownAll]; exact .nil⟩
  | _, _, .cons (d := d) (ds := ds) r rs, hs, hz => by
    have hs' : d.showable = true ∧ PyData.showableAll ds = true := by simpa [PyData.showableAll] using hs
    obtain ⟨b1, hb1, k1⟩ := reprK_of r hs'.1 (hz _ (by simp only [PyData.shownAll]; exact List.mem_cons_self ..))
    obtain ⟨b2, hb2, k2⟩ := reprAllK_of rs hs'.2 (fun t ht => hz t (by simp only [PyData.shownAll]; exact List.mem_cons_of_mem _ ht))
    refine ⟨b1 ++ b2, ?_, ?_⟩
    · simp only [PyData.depthAll]
      exact (hb1.mono (Nat.le_max_left _ _)).append (hb2.mono (Nat.le_max_right _ _))
    · simp only [PyData.depthAll, PyData.shownAll]
      exact .cons ((k1.more fun b hb => List.mem_append_left _ hb).level_le (Nat.le_max_left _ _)) (k2.more_le (fun b hb => List.mem_append_right _ hb) (Nat.le_max_right _ _))
end
theorem showsBy_of {a : Addr} {d : PyData} (r : Rds h₀ (.ref a) d) (hs : d.showable = true) (hz : d.shown.length ≤ sizeLine) : ∃ T idr, ShowsBy prog w h₀ a d T idr := by
  cases r with
  | @list _ o vs n xs h1 h2 h3 h4 =>
    have hz' : (listText (PyData.shownAll xs)).length ≤ sizeLine := by simpa only [PyData.shown] using hz
    obtain ⟨bs, hb, hk⟩ := reprAllK_of (prog := prog) (w := w) h4 (by simpa [PyData.showable] using hs) (fun t ht => Nat.le_trans (listText_mem_le ht) hz')
    obtain ⟨as, r⟩ := (Rds.list h1 h2 h3 h4).reads
    have hna : a ∉ bs := not_mem_of_deeper r (by simp only [PyData.depth]; omega) hb
    refine ⟨"list", "list.__repr__", F.slot_list_repr.toG, F.slot_list_str, F.slot_list_format, fun s hk0 => ⟨o, hk0 _ _ h1, h2⟩, fun A E s Q hg hu hk0 hQ => ?_⟩
    simp only [PyData.depth] at hu
    simp only [PyData.shown] at hQ
    cases h4 with
    | nil =>
      simp only [PyData.shownAll, listText_nil] at hQ
      exact call_list_repr_empty ⟨o, hk0 _ _ h1, h2⟩ (hk0 _ _ h1) h3 (hQ s.heap _ _ fun _ _ e => e)
    | cons q qs => exact call_list_reprK h1 h2 h3 hna (by simpa using hk.length_eq) (fun i y e => hk.item i y (by simpa using e)) hg (fun b _ => Clear.nil b) hu hk0 hQ hz'
  | @tuple _ o vs n xs h1 h2 h3 h4 =>
    have hz' : (tupleText (PyData.shownAll xs)).length ≤ sizeLine := by simpa only [PyData.shown] using hz
    obtain ⟨bs, hb, hk⟩ := reprAllK_of (prog := prog) (w := w) h4 (by simpa [PyData.showable] using hs) (fun t ht => Nat.le_trans (tupleText_mem_le ht) hz')
    obtain ⟨as, r⟩ := (Rds.tuple h1 h2 h3 h4).reads
    have hna : a ∉ bs := not_mem_of_deeper r (by simp only [PyData.depth]; omega) hb
    refine ⟨"tuple", "tuple.__repr__", F.slot_tuple_repr, F.slot_tuple_str, F.slot_tuple_format, fun s hk0 => ⟨o, hk0 _ _ h1, h2⟩, fun A E s Q hg hu hk0 hQ => ?_⟩
    simp only [PyData.depth] at hu
    simp only [PyData.shown] at hQ
    exact call_tuple_reprK h1 h2 h3 hna (by simpa using hk) hg (fun b _ => Clear.nil b) hu hk0 hQ hz'
  | @dict0 _ o n h1 h2 h3 hsys =>
    refine ⟨"dict", "dict.__repr__", F.slot_dict_repr, F.slot_dict_str, F.slot_dict_format, fun s hk0 => ⟨o, hk0 _ _ h1, h2⟩, fun A E s Q hg hu hk0 hQ => ?_⟩
    simp only [PyData.depth, PyData.depthKv] at hu
    simp only [PyData.shown, PyData.shownKv] at hQ
    have hz' : (dictText []).length ≤ sizeLine := by simpa only [PyData.shown, PyData.shownKv] using hz
    exact call_dict_reprK (as := []) (d := 0) (ps := []) h1 h2 h3 hsys (fun h => nomatch h) .nil hg (fun b _ => Clear.nil b) hu hk0 hQ hz'
theorem repr_of_rds {a : Addr} {d : PyData} {A : Around} {E : Value → Shared → Prop} {s : Shared} {Q : Value → Shared → Prop} (r : Rds s.heap (.ref a) d) (hs : d.showable = true) (hg : A.guards = some []) (hu : A.units + (d.depth + 1) < cLine)
    (hQ : ∀ h' u tk, (∀ b o, s.heap.get? b = some o → h'.get? b = some o) → Q (.str d.shown u) { s with heap := h', toks := tk })
    (hz : d.shown.length ≤ sizeLine) : wpAny (model prog w) A (call (.builtin "repr") [.ref a]) Q E s := by
  obtain ⟨T, idr, S⟩ := showsBy_of (prog := prog) (w := w) r hs hz
  exact call_repr_slot (by omega) (S.typeIs s fun _ _ e => e) S.slotRepr (S.call A.in1 E s _ hg (by show A.units + 1 + d.depth < cLine; omega) (fun _ _ e => e) fun h' u tk hk => ⟨_, _, rfl, hQ h' u tk hk⟩)
end
/-! data of values, empty dicts among them -/
mutual
inductive Dq (K : Fg) (H : Hp) : V → PyData → Prop
  | non : Dq K H .non .none
  | bl (b : Bool) : Dq K H (.bl b) (.bool b)
  | int (i : Int) : Dq K H (.int i) (.int i)
  | str (x : Str) : Dq K H (.str x) (.str x)
  | lst {a : Addr} {xs : List V} {ds : List PyData} : SqL K H a xs → DqAll K H xs ds → Dq K H (.ref a) (.list ds)
  | tup {a : Addr} {xs : List V} {ds : List PyData} : SqT K H a xs → DqAll K H xs ds → Dq K H (.ref a) (.tuple ds)
  | dic {a : Addr} : Rd H a (.dK []) → Dq K H (.ref a) (.dict [])
inductive DqAll (K : Fg) (H : Hp) : List V → List PyData → Prop
  | nil : DqAll K H [] []
  | cons {v : V} {vs : List V} {d : PyData} {ds : List PyData} : Dq K H v d → DqAll K H vs ds → DqAll K H (v :: vs) (d :: ds)
end
section
variable {X : Cx} {pins : List (Addr × Obj)} {σ : List (Option V)} {H : Hp} {s : Shared}
mutual
theorem Dq.rds (I : Inv X pins σ H s) : ∀ {v : V} {d : PyData} {u : Value}, Dq X.K H v d → RelV v u → Rds s.heap u d
  | _, _, _, .non, r => by cases r; exact .none
  | _, _, _, .bl b, r => by cases r; exact .bool b
  | _, _, _, .int i, r => by obtain ⟨t, rfl⟩ := r; exact .int i t
  | _, _, _, .str x, r => by obtain ⟨t, rfl⟩ := r; exact .str x t
  | _, _, _, .lst h1 h2, r => by
    cases r
    obtain ⟨its, rv, ⟨o, n, ho, hc, _, hd⟩, _⟩ := I.list h1
    exact .list ho hc hd (DqAll.rds I h2 rv)
  | _, _, _, .tup h1 h2, r => by
    cases r
    obtain ⟨its, rv, ⟨o, ho, hc, n, hd⟩, _⟩ := I.tuple h1
    exact .tuple ho hc hd (DqAll.rds I h2 rv)
  | _, _, _, .dic h, r => by
    cases r
    obtain ⟨_, hs, vs, kv, o, es, ep, ho, hx, hd, _, hp, _⟩ := dk_rd I.hok h
    cases kv
    have he : es = #[] := by
      have := hp.length
      apply Array.eq_empty_of_size_eq_zero
      simpa using this
    subst he
    exact .dict0 ho hx.1 hd hs
theorem DqAll.rds (I : Inv X pins σ H s) : ∀ {vs : List V} {ds : List PyData} {us : List Value}, DqAll X.K H vs ds → Vals vs us → RdsAll s.heap us ds
  | _, _, _, .nil, r => by cases r; exact .nil
  | _, _, _, .cons h1 h2, r => by
    cases r with
    | cons r1 r2 => exact .cons (Dq.rds I h1 r1) (DqAll.rds I h2 r2)
end
end
def rReprQ (K : Fg) : List V → Hp → VK → Prop := fun xs H Q => ∃ x d, xs = [x] ∧ Dq K H x d ∧ d.showable = true ∧ d.depth ≤ 60 ∧ d.shown.length ≤ sizeLine ∧ Q (.str d.shown) H
theorem call_reprQ {X : Cx} (hg : X.A.guards = some []) (hu : X.A.units + 64 < cLine) : CallR X (.builtin "repr") (rReprQ X.K) := by
  intro pins s σ H xs us Q I rs h
  obtain ⟨x, d, rfl, hd, hs, hdp, hz, q⟩ := h
  obtain ⟨u, rfl, rx⟩ := vals1 rs
  have hr := Dq.rds I hd rx
  cases id hd with
  | non => cases rx; exact PySem.P.repr_of_none ⟨.str _, H, I.tok _, ⟨_, rfl⟩, q⟩
  | bl b => cases rx; exact PySem.P.repr_of_bool ⟨.str _, H, I.tok _, ⟨_, rfl⟩, q⟩
  | int i =>
    obtain ⟨t, rfl⟩ := rx
    exact PySem.P.repr_of_int (by simpa [PyData.showable] using hs) ⟨.str _, H, I.tok _, ⟨_, rfl⟩, q⟩
  | str y =>
    obtain ⟨t, rfl⟩ := rx
    exact PySem.P.repr_of_str ⟨.str _, H, I.tok _, ⟨_, rfl⟩, q⟩ hz
  | lst h1 h2 =>
    cases rx
    exact repr_of_rds hr hs hg (by omega) (fun h' u tk hk => ⟨.str _, H, I.kept hk, ⟨_, rfl⟩, q⟩) hz
  | tup h1 h2 =>
    cases rx
    exact repr_of_rds hr hs hg (by omega) (fun h' u tk hk => ⟨.str _, H, I.kept hk, ⟨_, rfl⟩, q⟩) hz
  | dic h1 =>
    cases rx
    exact repr_of_rds hr hs hg (by omega) (fun h' u tk hk => ⟨.str _, H, I.kept hk, ⟨_, rfl⟩, q⟩) hz
mutual
def D.qy : D → PyData
  | .non => .none
  | .bl b => .bool b
  | .int i => .int i
  | .str s => .str s
  | .lst xs => .list (qyAll xs)
  | .tup xs => .tuple (qyAll xs)
  | .deck => .none
  | .dic _ _ => .dict []
  | .ref _ => .none
def qyAll : List D → List PyData
  | [] => []
  | x :: xs => D.qy x :: qyAll xs
end
mutual
def D.ql : D → Bool
  | .lst xs => qlAll xs
  | .tup xs => qlAll xs
  | .deck => false
  | .dic ks ds => ks.isEmpty && ds.isEmpty
  | .ref _ => false
  | .non => true
  | .bl _ => true
  | .int _ => true
  | .str _ => true
def qlAll : List D → Bool
  | [] => true
  | x :: xs => D.ql x && qlAll xs
end
section
variable {K : Fg} {dk : Dk} {F : Fz} {H : Hp}
mutual
theorem Rp.dq (le : Sb F H) : ∀ {v : V} {d : D}, Rp K dk F v d → d.ql = true → Dq K H v d.qy
  | _, _, .non, _ => .non
  | _, _, .bl b, _ => .bl b
  | _, _, .int i, _ => .int i
  | _, _, .str x, _ => .str x
  | _, _, .lst h r, p => .lst (SqL.of (le.lst h)) (Rps.dq le r (by simpa [D.ql] using p))
  | _, _, .tup h r, p => .tup (le.sqT h) (Rps.dq le r (by simpa [D.ql] using p))
  | _, _, .deck, p => by simp [D.ql] at p
  | _, _, .dic (ks := ks) h hl r, p => by
    have p' : ks = [] := by
      simp [D.ql] at p
      exact p.1
    subst p'
    exact .dic (le.dK h)
  | _, _, .ref _, p => by simp [D.ql] at p
theorem Rps.dq (le : Sb F H) : ∀ {vs : List V} {ds : List D}, Rps K dk F vs ds → qlAll ds = true → DqAll K H vs (qyAll ds)
  | _, _, .nil, _ => .nil
  | _, _, .cons a b, p => by
    simp only [qlAll, Bool.and_eq_true] at p
    exact .cons (Rp.dq le a p.1) (Rps.dq le b p.2)
end
theorem Rw.dq (le : Sb F H) {v : V} {d : D} (r : Rw K dk F H v d) (p : d.ql = true) : Dq K H v d.qy := by
  cases r with
  | rp r => exact r.dq le p
  | lst h r => exact .lst (SqL.of h) (r.dq le (by simpa [D.ql] using p))
  | dic h hl r =>
    rename_i ks _ _
    have p' : ks = [] := by
      simp [D.ql] at p
      exact p.1
    subst p'
    exact .dic h
end
def reprQ : List D → Option D
  | [d] => if d.ql && d.qy.showable && decide (d.qy.depth ≤ 60) && decide (d.qy.shown.length ≤ sizeLine) then some (.str d.qy.shown) else none
  | _ => none
theorem rc_reprQ {K : Fg} : RC K (rReprQ K) reprQ := by
  intro dk F H st vs ds z w rx hz Q q
  unfold reprQ at hz
  split at hz
  · split at hz
    · rename_i ho
      cases hz
      simp only [Bool.and_eq_true, decide_eq_true_eq] at ho
      obtain ⟨v, rfl, r⟩ := rx.one
      exact ⟨v, _, rfl, r.dq w.sub ho.1.1.1, ho.1.1.2, ho.1.2, ho.2, q _ F H (Px.refl w.sub) (.str _)⟩
    · cases hz
  · cases hz
end MD

set_option Elab.async false
set_option linter.all false
set_option maxRecDepth 100000
set_option maxHeartbeats 1000000
namespace MD
open PySem PySem.Spec PyProof.Rows L2
variable {ww : WW}

/-! ### dicts whose keys are nested tuples of numbers, bools and None -/
mutual
inductive Nk (K : Fg) (H : Hp) : NestedKey → V → Prop
  | non : Nk K H .none .non
  | bl (b : Bool) : Nk K H (.num (if b = true then 1 else 0)) (.bl b)
  | int (i : Int) : Nk K H (.num i) (.int i)
  | str (x : Str) : Nk K H (.text x) (.str x)
  | tup {a : Addr} {vs : List V} {ks : List NestedKey} : SqT K H a vs → Nks K H ks vs → Nk K H (.tup ks) (.ref a)
inductive Nks (K : Fg) (H : Hp) : List NestedKey → List V → Prop
  | nil : Nks K H [] []
  | cons {k : NestedKey} {v : V} {ks : List NestedKey} {vs : List V} : Nk K H k v → Nks K H ks vs → Nks K H (k :: ks) (v :: vs)
end
section
variable {X : Cx} {pins : List (Addr × Obj)} {σ : List (Option V)} {H : Hp} {s : Shared}
mutual
theorem Nk.is (I : Inv X pins σ H s) : ∀ {k : NestedKey} {v : V} {u : Value}, Nk X.K H k v → RelV v u → NestedIs s.heap k u
  | _, _, _, .non, r => by cases r; exact .none
  | _, _, _, .bl b, r => by cases r; exact .bool rfl
  | _, _, _, .int i, r => by obtain ⟨t, rfl⟩ := r; exact .int i t
  | _, _, _, .str x, r => by obtain ⟨t, rfl⟩ := r; exact .text x t
  | _, _, _, .tup h1 h2, r => by
    cases r
    obtain ⟨its, rv, ⟨o, ho, hc, n, hd⟩, _⟩ := I.tuple h1
    exact .tup ho hc hd (by simpa using Nks.are I h2 rv)
theorem Nks.are (I : Inv X pins σ H s) : ∀ {ks : List NestedKey} {vs : List V} {us : List Value}, Nks X.K H ks vs → Vals vs us → NestedAll s.heap ks us
  | _, _, _, .nil, r => by cases r; exact .nil
  | _, _, _, .cons h1 h2, r => by
    cases r with
    | cons r1 r2 => exact .cons (Nk.is I h1 r1) (Nks.are I h2 r2)
end
end
section
variable {K : Fg} {H : Hp}
variable {dk : Dk} {F : Fz}
mutual
theorem Rp.nk (le : Sb F H) : ∀ {v : V} {d : D} {k : NestedKey}, Rp K dk F v d → nkOf d = some k → Nk K H k v
  | _, _, _, .non, e => by cases e; exact .non
  | _, _, _, .bl b, e => by cases e; exact .bl b
  | _, _, _, .int i, e => by cases e; exact .int i
  | _, _, _, .str x, e => by cases e; exact .str x
  | _, _, _, .lst _ _, e => by cases e
  | _, _, _, .tup h r, e => by
    obtain ⟨ks, e1, e2⟩ := mpd (show (nksOf _).map NestedKey.tup = some _ from e)
    cases e2
    exact .tup (le.sqT h) (Rps.nks le r e1)
  | _, _, _, .deck, e => by cases e
  | _, _, _, .dic _ _ _, e => by cases e
  | _, _, _, .ref _, e => by cases e
theorem Rps.nks (le : Sb F H) : ∀ {vs : List V} {ds : List D} {ks : List NestedKey}, Rps K dk F vs ds → nksOf ds = some ks → Nks K H ks vs
  | _, _, _, .nil, e => by cases e; exact .nil
  | _, _, _, .cons a b, e => by
    obtain ⟨k, e1, e⟩ := bnd (show ((nkOf _).bind fun k => (nksOf _).map (k :: ·)) = some _ from e)
    obtain ⟨ks, e2, e3⟩ := mpd e
    cases e3
    exact .cons (Rp.nk le a e1) (Rps.nks le b e2)
end
end
abbrev Zs := List (NestedKey × Addr × Value)
structure NkD [WW] (K : Fg) (H : Hp) (c : Addr) (zs : Zs) : Prop where
  h : H c = some (.ext (NkAt c zs))
  k : ∀ z ∈ zs, Nk K H z.1 (.ref z.2.1) ∧ z.1.depth ≤ 8
  n : (zs.map fun z => z.1).Nodup
section
variable {X : Cx} {pins : List (Addr × Obj)} {σ : List (Option V)} {H : Hp} {s : Shared}
theorem NkD.dict {c : Addr} {zs : Zs} (hw : X.w = WW.w) (d : NkD X.K H c zs) (I : Inv X pins σ H s) : s.heap.DictOfH (nestedKind X.prog X.w) c zs ∧ (c == sysModules) = false ∧ zs.length ≤ sizeLine := by
  obtain ⟨⟨h1, h2, o, es, ep, ho, hx, hd, he⟩, _, _⟩ := I.hok c _ d.h
  exact ⟨⟨o, es, ep, ho, hx, hd, by rw [hw]; exact he, fun z hz => ⟨Nk.is I (d.k z hz).1 rfl, (d.k z hz).2⟩, d.n⟩, h1, h2⟩
theorem nk_ok {P : Program} {w : World} {H' : Hp} {h' : Heap} {c : Addr} {zs : Zs} (hc : (c == sysModules) = false) (hl : zs.length ≤ sizeLine) (hw : w = WW.w) (hd : h'.DictOfH (nestedKind P w) c zs) :
    ObjOk P w H' h' c (.ext (NkAt c zs)) := by
  obtain ⟨o, es, ep, ho, hx, hd, he, _, _⟩ := hd
  have hN : NkAt c zs h' := ⟨hc, hl, o, es, ep, ho, hx, hd, by
    rw [he, hw]
    rfl⟩
  refine ⟨hN, ⟨o, ho⟩, fun h1 h2 q e => ?_⟩
  obtain ⟨q1, q2, o', es', ep', q3, q4, q5, q6⟩ := q
  exact ⟨q1, q2, o', es', ep', e _ q3, q4, q5, q6⟩
end
/-! ### k in d, k not in d -/
def rNkIn [WW] (K : Fg) (neg : Bool) : R2 := fun x y H Q => ∃ b c k zs, x = .ref b ∧ y = .ref c ∧ Nk K H k (.ref b) ∧ k.depth ≤ 8 ∧ NkD K H c zs ∧ Q (.bl (if neg = true then !(atKey zs k).isSome else (atKey zs k).isSome)) H
theorem room_nk {X : Cx} (hu : X.A.units + 64 < cLine) : (nestedKind X.prog X.w).room X.A.in1 := by
  show X.A.units + 1 + 8 < cLine
  omega
theorem op_nkIn {X : Cx} (hu : X.A.units + 64 < cLine) (hw : X.w = WW.w) : OpR X (compareOp .In) (rNkIn X.K false) := by
  intro pins s σ H x y v u Q I rx ry h
  obtain ⟨b, c, k, zs, rfl, rfl, hk, hd, dd, q⟩ := h
  cases rx
  cases ry
  obtain ⟨d1, d2, d3⟩ := dd.dict hw I
  exact wpAny_in_heap (room_nk hu) ⟨Nk.is I hk rfl, hd⟩ d2 d1 ⟨.bl _, H, I.tok _, rfl, q⟩
theorem op_nkNotIn {X : Cx} (hu : X.A.units + 64 < cLine) (hw : X.w = WW.w) : OpR X (compareOp .NotIn) (rNkIn X.K true) := by
  intro pins s σ H x y v u Q I rx ry h
  obtain ⟨b, c, k, zs, rfl, rfl, hk, hd, dd, q⟩ := h
  cases rx
  cases ry
  obtain ⟨d1, d2, d3⟩ := dd.dict hw I
  refine notIn_keyed (knd := nestedKind X.prog X.w) (kvs := pairsH zs) (room_nk hu) ⟨Nk.is I hk rfl, hd⟩ d2 ⟨zs, d1, rfl⟩ ?_
  rw [valueAt_pairsH, Option.isSome_map]
  exact ⟨.bl _, H, I.tok _, rfl, q⟩
/-! ### d[k] -/
def rNkGet [WW] (K : Fg) : R2 := fun x y H Q => ∃ b c k zs p, x = .ref c ∧ y = .ref b ∧ Nk K H k (.ref b) ∧ k.depth ≤ 8 ∧ NkD K H c zs ∧ atKey zs k = some p ∧ ∀ v, RelV v p.2 → Q v H
/-! ### d[k] = v -/
def sNPut [WW] (K : Fg) (td ty tv : TE) : TS := fun D σ H => tv σ H fun v H1 => td σ H1 fun x H2 => ty σ H2 fun y H3 =>
  ∃ b c k zs, x = .ref c ∧ y = .ref b ∧ Nk K H3 k (.ref b) ∧ k.depth ≤ 8 ∧ NkD K H3 c zs ∧ zs.length < sizeLine ∧ ∀ u, RelV v u → D.nx σ (upd H3 c (.ext (NkAt c (storedH zs k b u))))
theorem stored_len (zs : Zs) (k : NestedKey) (b : Addr) (u : Value) : (storedH zs k b u).length ≤ zs.length + 1 := by
  unfold storedH
  split <;> simp
theorem stored_mem {zs : Zs} {k : NestedKey} {b : Addr} {u : Value} {z : NestedKey × Addr × Value} (h : z ∈ storedH zs k b u) : (∃ y ∈ zs, z.1 = y.1 ∧ z.2.1 = y.2.1) ∨ (z.1 = k ∧ z.2.1 = b) := by
  unfold storedH at h
  split at h
  · obtain ⟨y, hy, rfl⟩ := List.mem_map.mp h
    refine .inl ⟨y, hy, ?_⟩
    unfold putAt
    split <;> exact ⟨rfl, rfl⟩
  · rcases List.mem_append.mp h with h | h
    · exact .inl ⟨z, h, rfl, rfl⟩
    · rw [List.mem_singleton.mp h]; exact .inr ⟨rfl, rfl⟩
theorem stored_nodup {zs : Zs} (h : (zs.map fun z => z.1).Nodup) (k : NestedKey) (b : Addr) (u : Value) : ((storedH zs k b u).map fun z => z.1).Nodup := by
  unfold storedH
  split
  · rw [keys_map_putAt]; exact h
  · rename_i hn
    rw [List.map_append, List.nodup_append]
    refine ⟨h, by simp, fun a ha c hc e => hn ?_⟩
    have hc' : c = k := by simpa using hc
    obtain ⟨y, hy, hy1⟩ := List.mem_map.mp ha
    unfold atKey
    rw [Option.isSome_map, List.find?_isSome]
    exact ⟨y, hy, decide_eq_true (by rw [hy1, e, hc'])⟩
section
variable {X : Cx} {o i e value : Expr} {pos pos' tpos : Pos} {td ty tv : TE}
theorem ps_nput (hu : X.A.units + 64 < cLine) (hw : X.w = WW.w) (ho : PE X o td) (hi : PE X i ty) (hv : PE X value tv) (hs : swapsWith value (some (.Subscript o i pos')) pos.line X.env = pure false) :
    PS X (.Assign [.Subscript o i pos'] value pos) (sNPut X.K td ty tv) := by
  refine ⟨fun pins s σ H D I h => ?_⟩
  refine wpAny_Assign_Subscript (thn (hv.run pins s σ H _ I h) fun r s1 ⟨v, H1, I1, rv, q1⟩ => thn (ho.run pins s1 σ H1 _ I1 q1) fun u s2 ⟨x, H2, I2, rx, q2⟩ => thn (hi.run pins s2 σ H2 _ I2 q2) fun iv s3 ⟨y, H3, I3, ry, b, c, k, zs, ex, ey, hk, hd, dd, hl, q3⟩ => ?_) hs
  subst ex ey
  obtain rfl : u = Value.ref c := rx
  obtain rfl : iv = Value.ref b := ry
  obtain ⟨d1, d2, d3⟩ := dd.dict hw I3
  refine wpAny_setItem_heap (hsz := d3) (room_nk hu) ⟨Nk.is I3 hk rfl, hd⟩ d1 fun h' dd' hsb => ⟨σ, _, ?_, q3 _ rv⟩
  have he : ∃ q, h'.get? c = some q := let ⟨q, _, _, hq, _⟩ := dd'; ⟨q, hq⟩
  refine d_write I3 (by rw [dd.h]; exact True.intro) hsb he (nk_ok d2 (by have := stored_len zs k b r; omega) hw dd')
/-! ### {k: v} -/
def tDispN [WW] (K : Fg) (tk tv : TE) : TE := fun σ H Q => ∀ p, H p = none → tk σ (upd H p (.ext (NkAt p []))) fun x H1 => tv σ H1 fun y H2 =>
  H2 p = some (.ext (NkAt p [])) ∧ ∃ b k, x = .ref b ∧ Nk K H2 k (.ref b) ∧ k.depth ≤ 8 ∧ ∀ u, RelV y u → Q (.ref p) (upd H2 p (.ext (NkAt p [(k, b, u)])))
theorem pe_dispN {ke ve : Expr} {tk tv : TE} (hu : X.A.units + 64 < cLine) (hw : X.w = WW.w) (hk : PE X ke tk) (hv : PE X ve tv) : PE X (.Dict [some ke] [ve] pos) (tDispN X.K tk tv) := by
  refine ⟨fun pins s σ H Q I q => ?_⟩
  have hn := I.hok.fresh (Nat.le_refl s.heap.objs.size)
  have hb := I.big
  have hsys : (s.heap.objs.size == sysModules) = false := (dk_empty (P := X.prog) (w := X.w) (H := H) s.heap I.big).2.1
  have I1 := I.laid (a := s.heap.objs.size) (o := .ext (NkAt s.heap.objs.size [])) (h' := s.heap.push { cls := .type "dict", data := .dict #[] }) (t' := s.toks) (fun _ _ q => Heap.get?_push_of_some _ q) (Nat.le_refl _)
    (nk_ok hsys (Nat.zero_le _) hw (Heap.DictOfH.new (knd := nestedKind X.prog X.w) s.heap))
  refine wpAny_Dict_any rfl rfl (by simp) (by simp) (thn ((pps_cons hk hv pps_nil).run pins _ σ _ (fun ps H2 => match ps with
    | [(x, y)] => H2 s.heap.objs.size = some (.ext (NkAt s.heap.objs.size [])) ∧ ∃ b k, x = .ref b ∧ Nk X.K H2 k (.ref b) ∧ k.depth ≤ 8 ∧ ∀ u, RelV y u → Q (.ref s.heap.objs.size) (upd H2 s.heap.objs.size (.ext (NkAt s.heap.objs.size [(k, b, u)])))
    | _ => False) I1 (q _ hn)) fun ws s2 ⟨ps, H2, I2, rel, q2⟩ => ?_)
  match ps, ws, rel, q2 with
  | [], _, _, q2 => exact q2.elim
  | _ :: _ :: _, _, _, q2 => exact q2.elim
  | [(x, y)], _, .cons (b := (u, r)) ⟨rx, ry⟩ .nil, q2 =>
    obtain ⟨e, b, k, ex, nk, kd, q3⟩ := q2
    subst ex
    obtain rfl : u = Value.ref b := rx
    have dd : NkD X.K H2 s.heap.objs.size [] := ⟨e, (fun _ h => nomatch h), List.nodup_nil⟩
    obtain ⟨d1, d2, d3⟩ := dd.dict hw I2
    show wpAny _ _ (forIn [(Value.ref b, r)] PUnit.unit _) _ _ _
    rw [List.forIn_cons]
    have hr : (nestedKind X.prog X.w).room X.A := by show X.A.units + 8 < cLine; omega
    refine wpAny_bind (wpAny_bind (wpAny_dictSet_heap (hsz := d3) hr ⟨Nk.is I2 nk rfl, kd⟩ d1 fun h' dd' hsb => wpAny_pure ?_))
    refine wpAny_pure ⟨.ref s.heap.objs.size, _, ?_, rfl, q3 r ry⟩
    have he : ∃ q, h'.get? s.heap.objs.size = some q := let ⟨q, _, _, hq, _⟩ := dd'; ⟨q, hq⟩
    refine d_write I2 (by rw [e]; exact True.intro) hsb he (nk_ok (w := X.w) d2 (by rw [sizeLine_eq]; simp) hw dd')
end
/-! ### the mirrors -/
def hasN (ks : List D) (k : NestedKey) : Bool := ks.any fun d => decide (nkOf d = some k)
def nkdAt (st : S) (n : Nat) : Option (List D × List D) := match st.ob[n]? with
  | some (.nkd ks ds) => some (ks, ds)
  | _ => none
def nkT : D → Option NestedKey
  | .tup ds => nkOf (.tup ds)
  | _ => none
theorem nkT_of {d : D} {k : NestedKey} (h : nkT d = some k) : nkOf d = some k := by
  cases d with
  | tup ds => exact h
  | _ => cases h
section
variable {K : Fg} {dk : Dk} {F : Fz} {H : Hp} {st : S}
theorem nkdAt_eq {n : Nat} {q : List D × List D} (h : nkdAt st n = some q) : st.ob[n]? = some (.nkd q.1 q.2) := by
  unfold nkdAt at h
  split at h
  · rename_i e; cases h; exact e
  · cases h
theorem Rp.nkT {v : V} {d : D} {k : NestedKey} (r : Rp K dk F v d) (le : Sb F H) (h : MD.nkT d = some k) : ∃ b, v = .ref b ∧ Nk K H k (.ref b) := by
  unfold MD.nkT at h
  split at h
  · have := Rp.nk le r h
    cases r with
    | tup _ _ => exact ⟨_, rfl, this⟩
  · cases h
theorem nk_keys (le : Sb F H) : ∀ {zs : Zs} {ks : List D}, Rps K dk F (zs.map fun z => V.ref z.2.1) ks → ks.map nkOf = zs.map (fun z => some z.1) → ∀ z ∈ zs, Nk K H z.1 (.ref z.2.1)
  | [], _, _, _, z, hz => nomatch hz
  | y :: zs, _, .cons a b, e, z, hz => by
    rw [List.map_cons, List.map_cons] at e
    injection e with e1 e2
    rcases List.mem_cons.mp hz with q | q
    · rw [q]; exact Rp.nk le a e1
    · exact nk_keys le b e2 z q
theorem Wd.nkdAt {n : Nat} {a : Addr} {q : List D × List D} (w : Wd K dk F H st) (hn : F.mu[n]? = some a) (h : MD.nkdAt st n = some q) :
    ∃ (zs : Zs) (vs : List V), NkD K H a zs ∧ Rps K dk F (zs.map fun z => V.ref z.2.1) q.1 ∧ q.1.map nkOf = zs.map (fun z => some z.1) ∧ Vals vs (zs.map fun z => z.2.2) ∧ Rps K dk F vs q.2 := by
  obtain ⟨_, o⟩ := w.ob n a _ hn (nkdAt_eq h)
  cases o with
  | nkd h1 h2 h3 h4 h5 h6 h7 => exact ⟨_, _, ⟨h1, fun z hz => ⟨nk_keys w.sub h2 h3 z hz, h7 z hz⟩, h6⟩, h2, h3, h4, h5⟩
theorem has_atKey : ∀ {zs : Zs} {ks : List D} (k : NestedKey), ks.map nkOf = zs.map (fun z => some z.1) → (atKey zs k).isSome = hasN ks k
  | [], [], k, _ => rfl
  | [], _ :: _, k, e => by cases e
  | _ :: _, [], k, e => by cases e
  | z :: zs, d :: ks, k, e => by
    rw [List.map_cons, List.map_cons] at e
    injection e with e1 e2
    have ih := has_atKey k e2
    unfold atKey hasN at *
    rw [List.find?_cons, List.any_cons, e1]
    by_cases h : z.1 = k
    · simp [h]
    · have h' : ¬ (some z.1 = some k) := fun q => h (Option.some.inj q)
      simp only [h, h', decide_false, Bool.false_or]
      exact ih
end
section
variable {K : Fg}
def ninM (neg : Bool) (fa fd : ME) : ME := fun env st => (fa env st).bind fun p => (fd env p.2).bind fun q => (refOf q.1).bind fun n => (nkdAt q.2 n).bind fun z => (nkT p.1).bind fun k => if k.depth ≤ 8 then some (.bl (if neg = true then !hasN z.1 k else hasN z.1 k), q.2) else none
theorem im_nin {neg : Bool} {ta td : TE} {fa fd : ME} (ha : Im K ta fa) (hd : Im K td fd) : Im K (tOp (rNkIn K neg) ta td) (ninM neg fa fd) := fun dk H0 F0 F σ H env st d st' g e Q q => by
  obtain ⟨⟨x, s1⟩, e1, e⟩ := bnd e
  obtain ⟨⟨y, s2⟩, e2, e⟩ := bnd e
  obtain ⟨n, e3, e⟩ := bnd e
  obtain ⟨z, e4, e⟩ := bnd e
  obtain ⟨k, e5, e⟩ := bnd e
  split at e
  · rename_i hk
    cases e
    refine ha dk H0 F0 F σ H env st x s1 g e1 _ fun v F1 H1 x1 g1 r1 => ?_
    refine hd dk H0 F0 F1 σ H1 env s1 y s2 g1 e2 _ fun u F2 H2 x2 g2 r2 => ?_
    have hy : y = .ref n := refOf_eq e3
    subst hy
    obtain ⟨a, rfl, han⟩ := r2.refn
    obtain ⟨zs, vs, dd, h2, h3, h4, h5⟩ := g2.wd.nkdAt han e4
    obtain ⟨b, rfl, nk⟩ := (r1.mono x2.f).nkT g2.wd.sub e5
    refine ⟨b, a, k, zs, rfl, rfl, nk, hk, dd, ?_⟩
    rw [has_atKey k h3]
    exact q (.bl _) F2 H2 (x1.trans x2) g2 (.bl _)
  · cases e
/-! d[k] = v -/
def putNK (ks : List D) (d : D) (k : NestedKey) : List D := if hasN ks k = true then ks else ks ++ [d]
def putNV (ks ds : List D) (k : NestedKey) (d : D) : List D := if hasN ks k = true then List.zipWith (fun x y => if nkOf x = some k then d else y) ks ds else ds ++ [d]
variable {dk : Dk} {F : Fz} {H : Hp}
theorem put_vals {k : NestedKey} {u : Value} {v : V} {d : D} (rv : RelV v u) (rd : Rp K dk F v d) : ∀ {zs : Zs} {ks ds : List D} {vs : List V}, ks.map nkOf = zs.map (fun z => some z.1) → Vals vs (zs.map fun z => z.2.2) → Rps K dk F vs ds →
    ∃ vs', Vals vs' ((zs.map (putAt k u)).map fun z => z.2.2) ∧ Rps K dk F vs' (List.zipWith (fun x y => if nkOf x = some k then d else y) ks ds)
  | [], [], _, _, _, r, rr => by
    cases r
    cases rr
    exact ⟨[], .nil, .nil⟩
  | [], _ :: _, _, _, e, _, _ => by cases e
  | _ :: _, [], _, _, e, _, _ => by cases e
  | z :: zs, x :: ks, _, v0 :: _, e, .cons a b, .cons c f => by
    rw [List.map_cons, List.map_cons] at e
    injection e with e1 e2
    obtain ⟨vs', h1, h2⟩ := put_vals rv rd e2 b f
    rw [List.map_cons, List.map_cons, List.zipWith_cons_cons]
    by_cases h : z.1 = k
    · refine ⟨v :: vs', .cons ?_ h1, .cons ?_ h2⟩
      · unfold putAt; rw [if_pos h]; exact rv
      · rw [e1, if_pos (by rw [h])]; exact rd
    · refine ⟨v0 :: vs', .cons ?_ h1, .cons ?_ h2⟩
      · unfold putAt; rw [if_neg h]; exact a
      · rw [e1, if_neg (fun q => h (Option.some.inj q))]; exact c
theorem put_refs (zs : Zs) (k : NestedKey) (u : Value) : ((zs.map (putAt k u)).map fun z => V.ref z.2.1) = zs.map fun z => V.ref z.2.1 := by
  rw [List.map_map]
  refine List.map_congr_left fun z _ => ?_
  show V.ref (putAt k u z).2.1 = _
  unfold putAt
  split <;> rfl
theorem put_obAt {a : Addr} {zs : Zs} {vs : List V} {ks ds : List D} {k : NestedKey} {b : Addr} {u : Value} {v : V} {d kd : D} (dd : NkD K H a zs) (h2 : Rps K dk F (zs.map fun z => V.ref z.2.1) ks) (h3 : ks.map nkOf = zs.map (fun z => some z.1)) (h4 : Vals vs (zs.map fun z => z.2.2)) (h5 : Rps K dk F vs ds)
    (hk : k.depth ≤ 8) (rk : Rp K dk F (.ref b) kd) (ek : nkOf kd = some k) (rv : RelV v u) (rd : Rp K dk F v d) :
    ObAt K dk F (upd H a (.ext (NkAt a (storedH zs k b u)))) a (.nkd (putNK ks kd k) (putNV ks ds k d)) := by
  have hh := has_atKey k h3
  have hn := stored_nodup dd.n k b u
  have hdp : ∀ z ∈ storedH zs k b u, z.1.depth ≤ 8 := fun z hz => by
    rcases stored_mem hz with ⟨y, hy, e1, _⟩ | ⟨e1, _⟩
    · rw [e1]; exact (dd.k y hy).2
    · rw [e1]; exact hk
  unfold putNK putNV
  cases hs : hasN ks k with
  | true =>
    have e : storedH zs k b u = zs.map (putAt k u) := by
      unfold storedH
      rw [if_pos (by rw [hh, hs])]
    rw [e] at hn hdp ⊢
    rw [if_pos rfl, if_pos rfl]
    obtain ⟨vs', h6, h7⟩ := put_vals (k := k) rv rd h3 h4 h5
    refine .nkd upd_same (by rw [put_refs]; exact h2) ?_ h6 h7 hn hdp
    rw [h3, List.map_map]
    refine List.map_congr_left fun z _ => ?_
    show some z.1 = some (putAt k u z).1
    unfold putAt
    split <;> rfl
  | false =>
    have e : storedH zs k b u = zs ++ [(k, b, u)] := by
      unfold storedH
      rw [if_neg (by rw [hh, hs]; simp)]
    rw [e] at hn hdp ⊢
    rw [if_neg (by simp), if_neg (by simp)]
    refine .nkd upd_same (by rw [List.map_append]; exact h2.append (Rps.one rk)) (by rw [List.map_append, List.map_append, h3]; simp [ek]) (by rw [List.map_append]; exact h4.append (.cons rv .nil)) (h5.append (Rps.one rd)) hn hdp
def nputM (fo fk fv : ME) : MS := fun env st => (fv env st).bind fun p => (fo env p.2).bind fun o => (refOf o.1).bind fun n => (fk env o.2).bind fun q => (nkT q.1).bind fun k => (nkdAt q.2 n).bind fun z =>
  if k.depth ≤ 8 ∧ z.1.length < sizeLine then some (.nx env, q.2.put n (.nkd (putNK z.1 q.1 k) (putNV z.1 z.2 k p.1))) else none
theorem is_nput {to ty tv : TE} {fo fk fv : ME} (ho : Im K to fo) (hk : Im K ty fk) (hv : Im K tv fv) : ImS K (sNPut K to ty tv) (nputM fo fk fv) := fun dk H0 F0 F σ H env st fl st' g e E hd => by
  obtain ⟨⟨d, s1⟩, h1, e⟩ := bnd e
  obtain ⟨⟨x, s2⟩, h2, e⟩ := bnd e
  obtain ⟨n, h3, e⟩ := bnd e
  obtain ⟨⟨y, s3⟩, h4, e⟩ := bnd e
  obtain ⟨k, h5, e⟩ := bnd e
  obtain ⟨⟨ks, ds⟩, h6, e⟩ := bnd e
  split at e
  · rename_i hz
    cases e
    refine hv dk H0 F0 F σ H env st d s1 g h1 _ fun v F1 H1 x1 g1 r1 => ?_
    refine ho dk H0 F0 F1 σ H1 env s1 x s2 g1 h2 _ fun u F2 H2 x2 g2 r2 => ?_
    have hx : x = .ref n := refOf_eq h3
    subst hx
    obtain ⟨a, rfl, ha⟩ := r2.refn
    refine hk dk H0 F0 F2 σ H2 env s2 y s3 g2 h4 _ fun w F3 H3 x3 g3 r3 => ?_
    have ha3 := x3.f.at ha
    obtain ⟨zs, vs, dd, k2, k3, k4, k5⟩ := g3.wd.nkdAt ha3 h6
    obtain ⟨b, rfl, nk⟩ := r3.nkT g3.wd.sub h5
    have ek : nkOf y = some k := nkT_of h5
    have hl : zs.length = ks.length := by
      have := congrArg List.length k3
      simpa using this.symm
    refine ⟨b, a, k, zs, rfl, rfl, nk, hz.1, dd, by rw [hl]; exact hz.2, fun u ru => ?_⟩
    exact hd F3 σ _ (x1.f.trans (x2.f.trans x3.f)) (g3.put ha3 dd.h (by rintro ⟨_, _, z⟩; cases z) (put_obAt dd k2 k3 k4 k5 hz.1 r3 ek ru (r1.mono (x2.f.trans x3.f))))
  · cases e
/-! {k: v}, for the store -/
def stoN (fk fv : ME) : ME := fun env st => (fk env st).bind fun p => (fv env p.2).bind fun q => (nkT p.1).bind fun k => if k.depth ≤ 8 then some (.ref q.2.ob.length, q.2.ad (.nkd [p.1] [q.1])) else none
theorem im_stoN {tk tv : TE} {fk fv : ME} (hk : Im K tk fk) (hv : Im K tv fv) : Im K (tDispN K tk tv) (stoN fk fv) := fun dk H0 F0 F σ H env st d st' g e Q q => by
  obtain ⟨⟨x, s1⟩, e1, e⟩ := bnd e
  obtain ⟨⟨y, s2⟩, e2, e⟩ := bnd e
  obtain ⟨k, e3, e⟩ := bnd e
  split at e
  · rename_i hz
    cases e
    intro p hp
    have nd := g.nedk hp
    have px : Px F H F (upd H p (.ext (NkAt p []))) := Px.lay g.wd.sub hp
    have fp := g.wd.out hp
    refine hk dk H0 F0 F σ _ env st x s1 (g.px px) e1 _ fun v F1 H1 x1 g1 r1 => ?_
    refine hv dk H0 F0 F1 σ H1 env s1 y s2 g1 e2 _ fun u F2 H2 x2 g2 r2 => ?_
    have h2 : H2 p = some (.ext (NkAt p [])) := (x1.trans x2).h _ _ upd_same nd.1 nd.2 (.inl fp.2)
    have f2 : F2.out p := (x1.trans x2).out fp (nn upd_same)
    have no := g.noown hp
    obtain ⟨b, rfl, nk⟩ := (r1.mono x2.f).nkT g2.wd.sub e3
    have ek : nkOf x = some k := nkT_of e3
    refine ⟨h2, b, k, rfl, nk, hz, fun w rw' => ?_⟩
    have g3 : Good K dk H0 F0 F2 σ (upd H2 p (.ext (NkAt p [(k, b, w)]))) env s2 := g2.mutT h2 f2 (g.fresh0 hp) nd.1 nd.2 no
    refine q (.ref p) _ _ (((px.ext.trans (x1.trans x2)).upd hp).ad hp) (g3.ad upd_same f2 (g.fresh0 hp) nd.1 nd.2 no ?_) (.ref (ad_at g3.wd p))
    refine .nkd (zs := [(k, b, w)]) (vs := [u]) upd_same (.cons ((r1.mono x2.f).mono Le.ad) .nil) (by simp [ek]) (.cons rw' .nil) (.cons (r2.mono Le.ad) .nil) (by simp) fun z hz' => by rw [List.mem_singleton.mp hz']; exact hz
  · cases e
end
end MD

set_option Elab.async false
set_option linter.all false
set_option maxRecDepth 100000
set_option maxHeartbeats 1000000
namespace MD
open PySem PySem.Spec PyProof.Rows L2
variable {ww : WW}
section
variable {K : Fg}
/-! a, b, c = x, y, z -/
def three (i j l : Nat) (env : Sg) : List D → Option Sg
  | [a, b, c] => some (((env.set i (.val a)).set j (.val b)).set l (.val c))
  | _ => none
def par3M (i j l : Nat) (fa : MA) : MS := fun env st => (fa env st).bind fun p => (three i j l env p.1).map fun e => (.nx e, p.2)
theorem is_par3 {ta : TA} {fa : MA} (i j l : Nat) (h : ImA K ta fa) : ImS K (tPar3 i j l ta) (par3M i j l fa) := fun dk H0 F0 F σ H env st fl st' g e E hd => by
  obtain ⟨⟨ds, s1⟩, e1, e⟩ := bnd e
  obtain ⟨en, e2, e⟩ := mpd e
  cases e
  refine h dk H0 F0 F σ H env st ds s1 g e1 _ fun vs F1 H1 x1 g1 r1 => ?_
  replace e2 : three i j l env ds = some en := e2
  unfold three at e2
  split at e2
  · cases e2
    cases r1 with
    | cons a b => cases b with
      | cons b c => cases c with
        | cons c d =>
          cases d
          exact ⟨_, _, _, rfl, hd F1 _ H1 x1.f (((g1.set a).set b).set c)⟩
  · cases e2
/-! a global tuple of constants -/
def GTup (K : Fg) (mg : Str → Option Value) (x : Str) (ds : List D) : Prop := ∃ a : Addr, mg x = some (.ref a) ∧ ∃ vs, (∀ H : Hp, SqT K H a vs) ∧ ∀ (dk : Dk) (F : Fz), Rps K dk F vs ds
theorem im_gtup {mg : Str → Option Value} {x : Str} {ds : List D} (h : GTup K mg x ds) : Im K (tC (.ref h.choose)) (cst (.tup ds)) := fun dk H0 F0 F σ H env st d st' g e Q q => by
  cases e
  obtain ⟨_, vs, h1, h2⟩ := h.choose_spec
  exact q _ F H (Ext.refl F H) g (.tup (h1 _) (h2 _ _))
def conV : Value → Option (V × D)
  | .int i _ => some (.int i, .int i)
  | .bool b => some (.bl b, .bl b)
  | .str s _ => some (.str s, .str s)
  | .none => some (.non, .non)
  | _ => none
theorem conV_ok {u : Value} {v : V} {d : D} (h : conV u = some (v, d)) : RelV v u ∧ ∀ (dk : Dk) (F : Fz), Rp K dk F v d := by
  cases u <;> first | (cases h; exact ⟨⟨_, rfl⟩, fun _ _ => .int _⟩) | (cases h; exact ⟨rfl, fun _ _ => .bl _⟩) | (cases h; exact ⟨⟨_, rfl⟩, fun _ _ => .str _⟩) | (cases h; exact ⟨rfl, fun _ _ => .non⟩) | cases h
theorem gtup_of {mg : Str → Option Value} {x : Str} {a : Addr} {o : Obj} {us : List Value} {n : Nat} {ds : List D} (h : mg x = some (.ref a)) (hk : K.lookup a = some o) (hc : o.cls = .type "tuple") (hd : o.data = .seq us.toArray n) (hl : us.length ≤ 1000)
    (hv : ∃ vs : List V, us.map conV = (vs.zip ds).map some ∧ vs.length = us.length ∧ ds.length = us.length) : GTup K mg x ds := by
  obtain ⟨vs, e1, e2, e3⟩ := hv
  have key : ∀ (us : List Value) (vs : List V) (ds : List D), us.map conV = (vs.zip ds).map some → vs.length = us.length → ds.length = us.length → Vals vs us ∧ ∀ (dk : Dk) (F : Fz), Rps K dk F vs ds := by
    intro us
    induction us with
    | nil =>
      intro vs ds _ h1 h2
      cases vs with
      | nil => cases ds with
        | nil => exact ⟨.nil, fun _ _ => .nil⟩
        | cons _ _ => simp at h2
      | cons _ _ => simp at h1
    | cons u us ih =>
      intro vs ds h h1 h2
      cases vs with
      | nil => simp at h1
      | cons v vs => cases ds with
        | nil => simp at h2
        | cons d ds =>
          rw [List.zip_cons_cons, List.map_cons, List.map_cons] at h
          injection h with h3 h4
          obtain ⟨i1, i2⟩ := ih vs ds h4 (by simpa using h1) (by simpa using h2)
          obtain ⟨c1, c2⟩ := conV_ok (K := K) h3
          exact ⟨.cons c1 i1, fun dk F => .cons (c2 dk F) (i2 dk F)⟩
  obtain ⟨i1, i2⟩ := key us vs ds e1 e2 e3
  exact ⟨a, h, vs, fun H => .inr ⟨o, us.toArray, n, hk, hc, hd, by rw [sizeLine_eq]; simp; omega, by simpa using i1⟩, i2⟩
end
theorem pe_gtup {X : Cx} {x : Str} {ds : List D} {pos : Pos} (hg : Gl X x) (h : GTup X.K X.mg x ds) (hd : (x == ("__debug__" : Str)) = false := by decide) : PE X (.Name x pos) (tC (.ref h.choose)) := pe_glob hg h.choose_spec.1 rfl hd
end MD

set_option Elab.async false
set_option linter.all false
set_option maxRecDepth 100000
set_option maxHeartbeats 1000000
namespace MD
open PySem PySem.Spec PyProof.Rows L2
variable {ww : WW}

/-! ### instances: fields -/
def lookF : List Str → List D → Str → Option D
  | f :: fs, d :: ds, g => if f = g then some d else lookF fs ds g
  | _, _, _ => none
def putFN : List Str → Str → List Str
  | [], g => [g]
  | f :: fs, g => if f = g then f :: fs else f :: putFN fs g
def putFV {α : Type} : List Str → List α → Str → α → List α
  | [], _, _, v => [v]
  | f :: fs, x :: xs, g, v => if f = g then v :: xs else x :: putFV fs xs g v
  | _ :: _, [], _, v => [v]
theorem putF_zip : ∀ (fs : List Str) (vs : List V) (g : Str) (v : V), fs.length = vs.length → putF g v (fs.zip vs) = (putFN fs g).zip (putFV fs vs g v) ∧ (putFN fs g).length = (putFV fs vs g v).length
  | [], [], g, v, _ => ⟨rfl, rfl⟩
  | [], _ :: _, _, _, h => by cases h
  | _ :: _, [], _, _, h => by cases h
  | f :: fs, x :: vs, g, v, h => by
    obtain ⟨i1, i2⟩ := putF_zip fs vs g v (by simpa using h)
    rw [List.zip_cons_cons]
    show (if f = g then (f, v) :: fs.zip vs else (f, x) :: putF g v (fs.zip vs)) = _ ∧ _
    unfold putFN putFV
    by_cases e : f = g
    · rw [if_pos e, if_pos e, if_pos e]
      exact ⟨rfl, by simpa using h⟩
    · rw [if_neg e, if_neg e, if_neg e, i1]
      exact ⟨rfl, by simpa using i2⟩
section
variable {K : Fg} {dk : Dk} {F : Fz} {H : Hp}
theorem putFV_rps {v : V} {d : D} (r : Rp K dk F v d) (g : Str) : ∀ {fs : List Str} {vs : List V} {ds : List D}, fs.length = vs.length → Rps K dk F vs ds → Rps K dk F (putFV fs vs g v) (putFV fs ds g d)
  | [], _, _, _, _ => .cons r .nil
  | f :: fs, _, _, h, .nil => by cases h
  | f :: fs, _, _, h, .cons a b => by
    unfold putFV
    by_cases e : f = g
    · rw [if_pos e, if_pos e]; exact .cons r b
    · rw [if_neg e, if_neg e]; exact .cons a (putFV_rps r g (by simpa using h) b)
theorem lookF_rp {g : Str} {d : D} : ∀ {fs : List Str} {vs : List V} {ds : List D}, fs.length = vs.length → Rps K dk F vs ds → lookF fs ds g = some d → ∃ v, (fs.zip vs).lookup g = some v ∧ Rp K dk F v d
  | [], _, _, _, _, e => by cases e
  | f :: fs, _, _, h, .nil, e => by cases h
  | f :: fs, v :: vs, _, h, .cons a b, e => by
    unfold lookF at e
    rw [List.zip_cons_cons]
    by_cases q : f = g
    · rw [if_pos q] at e
      cases e
      have : (g == f) = true := beq_iff_eq.mpr q.symm
      exact ⟨v, by simp [List.lookup, this], a⟩
    · rw [if_neg q] at e
      obtain ⟨u, h1, h2⟩ := lookF_rp (by simpa using h) b e
      have : (g == f) = false := beq_eq_false_iff_ne.mpr fun z => q z.symm
      exact ⟨u, by simp [List.lookup, this, h1], h2⟩
theorem look_none {g : Str} : ∀ {fs : List Str} {vs : List V}, g ∉ fs → (fs.zip vs).lookup g = none
  | [], vs, _ => by simp
  | f :: fs, [], _ => by simp
  | f :: fs, v :: vs, h => by
    rw [List.mem_cons, not_or] at h
    rw [List.zip_cons_cons]
    have : (g == f) = false := beq_eq_false_iff_ne.mpr h.1
    simp [List.lookup, this, look_none h.2]
end
/-- what must be known of a class: its names, and that no class of it has a name of the fields -/
structure ClsOk (K : Fg) (c : Str) (fl : List Str) : Prop where
  cl : ∀ C, clsOf K c = some C → Cls K C
  no : ∀ C, clsOf K c = some C → ∀ f ∈ fl, NoAttr K C f
theorem cs1 {K : Fg} {c : Str} {fl : List Str} (h : ClsOk K c fl) : ∀ c' ∈ [c], ClsOk K c' fl := fun c' hc => by rw [List.mem_singleton.mp hc]; exact h
def insAt (cs : List Str) (st : S) (n : Nat) : Option (Str × List Str × List D) := match st.ob[n]? with
  | some (.ins c fs xs) => if c ∈ cs then some (c, fs, xs) else none
  | _ => none
theorem insAt_eq {cs : List Str} {st : S} {n : Nat} {q : Str × List Str × List D} (h : insAt cs st n = some q) : st.ob[n]? = some (.ins q.1 q.2.1 q.2.2) ∧ q.1 ∈ cs := by
  unfold insAt at h
  split at h
  · split at h
    · rename_i e hc
      cases h
      exact ⟨e, hc⟩
    · cases h
  · cases h
section
variable {K : Fg}
theorem Wd.insAt {dk : Dk} {F : Fz} {H : Hp} {st : S} {cs : List Str} {n : Nat} {a : Addr} {q : Str × List Str × List D} (w : Wd K dk F H st) (hn : F.mu[n]? = some a) (h : MD.insAt cs st n = some q) :
    ∃ C dx vs, clsOf K q.1 = some C ∧ H a = some (.ins C dx (q.2.1.zip vs)) ∧ q.2.1.length = vs.length ∧ Rps K dk F vs q.2.2 := by
  obtain ⟨e, _⟩ := insAt_eq h
  obtain ⟨_, o⟩ := w.ob n a _ hn e
  cases o with
  | ins h1 h2 h3 h4 => exact ⟨_, _, _, h1, h2, h3, h4⟩
/-! e.f -/
def fldM (cs : List Str) (f : Str) (fo : ME) : ME := fun env st => (fo env st).bind fun p => (refOf p.1).bind fun n => (insAt cs p.2 n).bind fun z => (lookF z.2.1 z.2.2 f).map fun d => (d, p.2)
theorem im_fld {cs fl : List Str} {f : Str} {to : TE} {fo : ME} (hc : ∀ c ∈ cs, ClsOk K c fl) (hf : f ∈ fl) (ho : Im K to fo) : Im K (tFld K to f) (fldM cs f fo) := fun dk H0 F0 F σ H env st d st' g e Q q => by
  obtain ⟨⟨x, s1⟩, e1, e⟩ := bnd e
  obtain ⟨n, e2, e⟩ := bnd e
  obtain ⟨z, e3, e⟩ := bnd e
  obtain ⟨d', e4, e⟩ := mpd e
  cases e
  refine ho dk H0 F0 F σ H env st x s1 g e1 _ fun v F1 H1 x1 g1 r1 => ?_
  have hx : x = .ref n := refOf_eq e2
  subst hx
  obtain ⟨a, rfl, ha⟩ := r1.refn
  obtain ⟨C, dx, vs, h1, h2, h3, h4⟩ := g1.wd.insAt ha e3
  obtain ⟨v, h5, h6⟩ := lookF_rp h3 h4 e4
  have ok := hc _ (insAt_eq e3).2
  exact ⟨a, C, dx, _, v, rfl, h2, ok.cl C h1, ok.no C h1 f hf, h5, q v F1 H1 x1 g1 h6⟩
/-! e.f = v -/
def setM (cs : List Str) (f : Str) (fo fv : ME) : MS := fun env st => (fv env st).bind fun p => (fo env p.2).bind fun o => (refOf o.1).bind fun n => (insAt cs o.2 n).bind fun z => if z.2.1.length < 1000 then some (.nx env, o.2.put n (.ins z.1 (putFN z.2.1 f) (putFV z.2.1 z.2.2 f p.1))) else none
theorem is_setf {cs fl : List Str} {f : Str} {to tv : TE} {fo fv : ME} (hc : ∀ c ∈ cs, ClsOk K c fl) (hf : f ∈ fl) (ho : Im K to fo) (hv : Im K tv fv) : ImS K (sFld K to tv f) (setM cs f fo fv) := fun dk H0 F0 F σ H env st fl' st' g e E hd => by
  obtain ⟨⟨d, s1⟩, h1, e⟩ := bnd e
  obtain ⟨⟨x, s2⟩, h2, e⟩ := bnd e
  obtain ⟨n, h3, e⟩ := bnd e
  obtain ⟨z, h4, e⟩ := bnd e
  split at e
  · rename_i hz
    cases e
    refine hv dk H0 F0 F σ H env st d s1 g h1 _ fun v F1 H1 x1 g1 r1 => ?_
    refine ho dk H0 F0 F1 σ H1 env s1 x s2 g1 h2 _ fun u F2 H2 x2 g2 r2 => ?_
    have hx : x = .ref n := refOf_eq h3
    subst hx
    obtain ⟨a, rfl, ha⟩ := r2.refn
    obtain ⟨C, dx, vs, k1, k2, k3, k4⟩ := g2.wd.insAt ha h4
    have ok := hc _ (insAt_eq h4).2
    obtain ⟨p1, p2⟩ := putF_zip z.2.1 vs f v k3
    refine ⟨a, C, dx, _, rfl, k2, ok.cl C k1, ok.no C k1 f hf, ?_, ?_⟩
    · rw [List.length_zip, ← k3, Nat.min_self]; exact hz
    · refine hd F2 σ _ (x1.f.trans x2.f) (g2.put ha k2 (by rintro ⟨_, _, z⟩; cases z) ?_)
      exact .ins (dx := dx) k1 (by rw [upd_same, p1]) p2 (putFV_rps (r1.mono x2.f) f k3 k4)
  · cases e
/-! methods -/
def methM (c m : Str) (mf : MF) (fo : ME) (a : MA) : ME := fun env st => (fo env st).bind fun p => (refOf p.1).bind fun n => (insAt [c] p.2 n).bind fun z => if m ∉ z.2.1 then (a env p.2).bind fun q => mf (p.1 :: q.1) q.2 else none
theorem im_meth {c m : Str} {C : Addr} {n : Nat} {mf : MF} {to : TE} {ta : TA} {fo : ME} {a : MA} {E : XK} (hC : clsOf K c = some C) (ho : Im K to fo) (ha : ImA K ta a) (hn : ∀ env st p, a env st = some p → p.1.length = n) : Im K (tMeth C m (spD K (n + 1) mf) [] E to ta) (methM c m mf fo a) := fun dk H0 F0 F σ H env st d st' g e Q q => by
  obtain ⟨⟨x, s1⟩, e1, e⟩ := bnd e
  obtain ⟨j, e2, e⟩ := bnd e
  obtain ⟨z, e3, e⟩ := bnd e
  split at e
  · rename_i hm
    obtain ⟨⟨ds, s2⟩, e4, e⟩ := bnd e
    refine ho dk H0 F0 F σ H env st x s1 g e1 _ fun v F1 H1 x1 g1 r1 => ?_
    have hx : x = .ref j := refOf_eq e2
    subst hx
    obtain ⟨b, rfl, hb⟩ := r1.refn
    obtain ⟨C', dx, vs, h1, h2, h3, h4⟩ := g1.wd.insAt hb e3
    have hz : z.1 = c := List.mem_singleton.mp (insAt_eq e3).2
    rw [hz, hC] at h1
    cases h1
    refine ⟨b, dx, _, rfl, h2, look_none hm, ?_⟩
    refine ha dk H0 F0 F1 σ H1 env s1 ds s2 g1 e4 _ fun us F2 H2 x2 g2 r2 => ?_
    rw [List.append_nil]
    exact ⟨by simpa using r2.length.trans (hn _ _ _ e4), dk, F2, .ref j :: ds, s2, d, st', g2.wd, .cons (r1.mono x2.f) r2, e, fun v F' H' x w r => q v F' H' ((x1.trans x2).trans x) (g2.step x w) r⟩
  · cases e
/-! making -/
def makeM (c : Str) (mf : MF) (a : MA) : ME := fun env st => (a env st).bind fun p => (mf (.ref p.2.ob.length :: p.1) (p.2.ad (.ins c [] []))).bind fun q => match q.1 with
  | .non => some (.ref p.2.ob.length, q.2)
  | _ => none
theorem im_make {c : Str} {C : Addr} {n : Nat} {mf : MF} {ta : TA} {a : MA} {E : XK} (hC : clsOf K c = some C) (ha : ImA K ta a) (hn : ∀ env st p, a env st = some p → p.1.length = n) : Im K (tMake C (spD K (n + 1) mf) [] E ta) (makeM c mf a) := fun dk H0 F0 F σ H env st d st' g e Q q => by
  obtain ⟨⟨ds, s1⟩, e1, e⟩ := bnd e
  obtain ⟨⟨y, s2⟩, e2, e⟩ := bnd e
  refine ha dk H0 F0 F σ H env st ds s1 g e1 _ fun vs F1 H1 x1 g1 r1 => ?_
  intro x dx hx hdx hne
  have px1 : Px F1 H1 F1 (upd H1 dx (.own x)) := Px.lay g1.wd.sub hdx
  have hx1 : upd H1 dx (.own x) x = none := by rw [upd_ne hne.symm]; exact hx
  have g2 := g1.px px1
  have px2 : Px F1 (upd H1 dx (.own x)) F1 (upd (upd H1 dx (.own x)) x (.ins C dx [])) := Px.lay g2.wd.sub hx1
  have nd := g1.nedk hx
  have fx := g1.wd.out hx
  have g3 := (g2.px px2).ad (p := x) (ob := .ins c [] []) upd_same fx (g1.fresh0 hx) nd.1 nd.2 (g1.noown hx) (.ins (dx := dx) (vs := []) hC upd_same rfl .nil)
  have hat := ad_at (g2.px px2).wd x
  rw [List.append_nil]
  have hl : (V.ref x :: vs).length = n + 1 := by simpa using r1.length.trans (hn _ _ _ e1)
  have xx : Ext dk F1 H1 (F1.ad x) (upd (upd H1 dx (.own x)) x (.ins C dx [])) := ((px1.ext.trans px2.ext)).ad hx
  refine ⟨hl, dk, F1.ad x, .ref s1.ob.length :: ds, s1.ad (.ins c [] []), y, s2, g3.wd, .cons (.ref hat) (r1.mono Le.ad), e2, fun v F' H' x2 w r => ?_⟩
  cases y with
  | non =>
    cases e
    cases r
    exact ⟨rfl, q (.ref x) F' H' (x1.trans (xx.trans x2)) (g3.step x2 w) (.ref (x2.f.at hat))⟩
  | _ => cases e
end
/-! ### the rules of the text -/
theorem guards_make {A : Around} (C : Addr) (us : List Value) (h : A.guards = some []) : (A.under (.builtin "type.__call__" ⟨.ref C :: us, []⟩)).guards = some [] := by
  have h1 : (A.under (.builtin "type.__call__" ⟨.ref C :: us, []⟩)).guards = pushGuards (Code.guards (.builtin "type.__call__" ⟨.ref C :: us, []⟩)) A.guards := rfl
  have h2 : Code.guards (.builtin "type.__call__" ⟨.ref C :: us, []⟩) = [] := by
    unfold Code.guards
    rw [if_neg]
    have : Code.isGuard (.builtin "type.__call__" ⟨.ref C :: us, []⟩) = false := by
      first | rfl | decide +kernel | simp [Code.isGuard, guardIds]
    rw [this]
    exact Bool.false_ne_true
  rw [h1, h2, h]
  rfl
section
variable {X : Cx} {k : Nat} {f C : Addr} {fd : FuncData} {ps : List Str} {sp : Sp} {x m : Str} {p pos apos : Pos} {e o : Expr} {es : List Expr} {ta : TE} {t : TA}
theorem pe_methG {pl : Sem Bool} (he : PE X o ta) (c : Cls X.K C) (hm : Meth X.K C m f) (F : FnG X.prog X.w X.K X.mg X.base k f fd ps sp) (hr : Room k X.A) (gd : X.A.guards = some []) (hb : Binds X.K fd ps []) (ha : PA X (e :: es) t)
    (hst : starEach (e :: es) X.env = (false, eval e X.env) :: starEach es X.env := by rfl) (hpl : (backTo pos (starEach es X.env)).any (·.1) = false := by rfl)
    (ht : eval (.Call (.Attribute o m apos) (e :: es) [] pos) X.env = (do
      let ov ← eval o X.env
      standAt apos.atName
      let (f, first) ← holding [ov] (getMethod ov m pl)
      callWith pos f first (backTo pos (starEach (e :: es) X.env)) (backToKw pos (keywordEach [] X.env))) := by rfl) :
    PE X (.Call (.Attribute o m apos) (e :: es) [] pos) (tMeth C m sp [] E0 ta t) := by
  refine ⟨fun pins s σ H Q I h => ?_⟩
  refine PySem.W.methodCall_KW (pl := pl) (thn (he.run pins s σ H _ I h) fun u s1 ⟨x, H1, I1, rx, a, dx, fs, ex, ea, l, q⟩ => ?_) ht
  subst ex
  obtain rfl : u = Value.ref a := rx
  refine getmeth_ok I1 ea c hm l ?_
  refine PySem.W.callWith_K (first := [.ref a]) (h₀ := X.base) I.ok.mod.kin hm.kp (thn (ha.run pos pins s1 σ H1 _ I1 q) fun us s2 ⟨vs, H2, I2, r, q2⟩ => ⟨I2.kIn, ?_⟩) hst hpl
  replace q2 : sp (V.ref a :: (vs ++ [])) H2 Q E0 := q2
  rw [List.append_nil] at q2
  exact runG (us := .ref a :: us) (vs := .ref a :: vs) F hr gd hb I2 (.cons rfl r) q2
theorem pe_methG0 {pl : Sem Bool} (he : PE X o ta) (c : Cls X.K C) (hm : Meth X.K C m f) (F : FnG X.prog X.w X.K X.mg X.base k f fd ps sp) (hr : Room k X.A) (gd : X.A.guards = some []) (hb : Binds X.K fd ps [])
    (ht : eval (.Call (.Attribute o m apos) [] [] pos) X.env = (do
      let ov ← eval o X.env
      standAt apos.atName
      let (f, first) ← holding [ov] (getMethod ov m pl)
      callWith pos f first (backTo pos (starEach [] X.env)) (backToKw pos (keywordEach [] X.env))) := by rfl) :
    PE X (.Call (.Attribute o m apos) [] [] pos) (tMeth C m sp [] E0 ta tNil) := by
  refine ⟨fun pins s σ H Q I h => ?_⟩
  refine PySem.W.methodCall_KW (pl := pl) (thn (he.run pins s σ H _ I h) fun u s1 ⟨x, H1, I1, rx, a, dx, fs, ex, ea, l, q⟩ => ?_) ht
  subst ex
  obtain rfl : u = Value.ref a := rx
  refine getmeth_ok I1 ea c hm l ?_
  exact PySem.W.callWith_K0 (first := [.ref a]) I1.kIn hm.kp (runG (us := [.ref a]) (vs := [.ref a]) F hr gd hb I1 (.cons rfl .nil) q)
theorem run_makeG {pins : List (Addr × Obj)} {σ : L2.St} {H : Hp} {s : Shared} {Q : VK} {us : List Value} {vs : List V} (M : Mk X.K C f) (F : FnG X.prog X.w X.K X.mg X.base k f fd ps sp) (hr : Room (k + 1) X.A) (gd : X.A.guards = some []) (hb : Binds X.K fd ps [])
    (I : L2.Inv X pins σ H s) (r : Vals vs us)
    (h : ∀ x dx, H x = none → H dx = none → dx ≠ x → sp (.ref x :: vs) (upd (upd H dx (.own x)) x (.ins C dx [])) (fun v H2 => v = .non ∧ Q (.ref x) H2) E0) :
    wpAny (model X.prog X.w) X.A (call (.ref C) us) (EP X pins σ Q) X.xe s := by
  have hq := h (s.heap.objs.size + 1) s.heap.objs.size (I.hok.fresh (Nat.le_succ _)) (I.hok.fresh (Nat.le_refl _)) (Nat.ne_of_lt (Nat.lt_succ_self _))
  have I2 := Inv.made (C := C) I
  have r2 : Vals (V.ref (s.heap.objs.size + 1) :: vs) (Value.ref (s.heap.objs.size + 1) :: us) := .cons rfl r
  have hl : (Value.ref (s.heap.objs.size + 1) :: us).length = ps.length := by
    have e := r2.length
    rw [F.len _ _ _ _ hq] at e
    exact e.symm
  have bb := hb _ (Value.ref (s.heap.objs.size + 1) :: us) I2.kIn (by rw [List.append_nil]; exact hl)
  rw [List.append_nil] at bb
  refine wpAny_call (make_map (f := f) I.kIn M.makes M.init (beq_iff_eq.mp M.fn) (codeAny_mono (F.run _ X.stack _ _ ⟨Value.ref (s.heap.objs.size + 1) :: us, []⟩ (Value.ref (s.heap.objs.size + 1) :: us) _ _ E0 (hr.make C us []) (guards_make C us gd)
    (I2.env0.make C us []) bb r2 hq) fun r s' hq' => ?_))
  cases r with
  | error e => exact False.elim hq'
  | ok fl =>
    cases fl with
    | ret u =>
      obtain ⟨v, H', I3, rv, ev, q3⟩ := I2.after hq'
      subst ev
      exact ⟨rv, ⟨V.ref (s.heap.objs.size + 1), H', I3, rfl, q3⟩⟩
    | next => exact False.elim hq'
    | brk => exact False.elim hq'
    | cont => exact False.elim hq'
theorem pe_makeG (M : Mk X.K C f) (F : FnG X.prog X.w X.K X.mg X.base k f fd ps sp) (hr : Room (k + 1) X.A) (gd : X.A.guards = some []) (hg : Gl X x) (hm : X.mg x = some (.ref C)) (hb : Binds X.K fd ps [])
    (ha : PA X (e :: es) t) (hdb : (x == ("__debug__" : Str)) = false := by decide) (he : starEach (e :: es) X.env = (false, eval e X.env) :: starEach es X.env := by rfl) (hpl : (backTo pos (starEach es X.env)).any (·.1) = false := by rfl) :
    PE X (.Call (.Name x p) (e :: es) [] pos) (tMake C sp [] E0 t) := by
  refine ⟨fun pins s σ H Q I h => ?_⟩
  refine wpAny_Call_Name_kw (ld_glob I hg hm ?_ hdb)
  refine PySem.W.callWith_K (h₀ := X.base) I.ok.mod.kin M.kp (thn (ha.run pos pins s σ H _ I h) fun us s1 ⟨vs, H1, I1, r, q⟩ => ⟨I1.kIn, ?_⟩) he hpl
  refine run_makeG M F hr gd hb I1 r fun x dx h1 h2 h3 => ?_
  have := q x dx h1 h2 h3
  rw [List.append_nil] at this
  exact this
end
/-! ### methods and makers, as a caller sees them -/
def CalM (P : Program) (w : World) (K : Fg) (mg : Str → Option Value) (base : Heap) (k : Nat) (c m : Str) (ps : List Str) (sp : Sp) : Prop :=
  ∃ C : Addr, clsOf K c = some C ∧ Cls K C ∧ ∃ f fd, FnG P w K mg base k f fd ps sp ∧ Meth K C m f ∧ Binds K fd ps []
def CalK (P : Program) (w : World) (K : Fg) (mg : Str → Option Value) (base : Heap) (k : Nat) (c : Str) (ps : List Str) (sp : Sp) : Prop :=
  ∃ C : Addr, clsOf K c = some C ∧ mg c = some (.ref C) ∧ ∃ f fd, FnG P w K mg base k f fd ps sp ∧ Mk K C f ∧ Binds K fd ps []
end MD

set_option Elab.async false
set_option linter.all false
set_option maxRecDepth 100000
set_option maxHeartbeats 1000000
namespace MD
open PySem PySem.Spec PyProof.Rows L2
variable {ww : WW}
section
variable {K : Fg} {dk : Dk} {F : Fz}
/-! range(i, j, -1) -/
def dnD (lo : Int) (n : Nat) : List D := (List.range n).map fun k => .int (lo + (k : Nat) * (-1))
theorem dnD_get {lo : Int} {n i : Nat} {d : D} (h : (dnD lo n)[i]? = some d) : i < n ∧ d = .int (lo + (i : Nat) * (-1)) := by
  unfold dnD at h
  rw [List.getElem?_map] at h
  obtain ⟨j, h1, h2⟩ := mpd h
  have hi : i < n := by
    by_cases hl : i < n
    · exact hl
    · rw [List.getElem?_eq_none (by rw [List.length_range]; omega)] at h1; cases h1
  rw [List.getElem?_range hi] at h1
  cases h1
  exact ⟨hi, h2.symm⟩
theorem stdy_dn (lo : Int) (n : Nat) : Stdy K dk F (Itc lo (-1) n) (dnD lo n) := fun F1 H1 st le w i => by
  refine ⟨fun d hd => ?_, fun hl => ?_⟩
  · obtain ⟨h1, rfl⟩ := dnD_get hd
    refine ⟨h1, fun x H2 hy => ?_⟩
    obtain ⟨e1, e2⟩ := hy
    subst e1 e2
    exact ⟨F1, Px.refl w.sub, .int _⟩
  · show n ≤ i
    unfold dnD at hl
    simpa using hl
def r3M (a : MA) : MI := fun env st => (a env st).bind fun p => match p.1 with
  | [.int i, .int j, .int c] => if c = -1 ∧ -(2 ^ 62) ≤ i ∧ i < 2 ^ 62 ∧ -(2 ^ 62) ≤ j ∧ j < 2 ^ 62 then some (dnD i (i - j).toNat, p.2) else none
  | _ => none
theorem Rws.three {H : Hp} {vs : List V} {d e f : D} (r : Rws K dk F H vs [d, e, f]) : ∃ v u x, vs = [v, u, x] ∧ Rw K dk F H v d ∧ Rw K dk F H u e ∧ Rw K dk F H x f := by
  cases r with
  | cons a b => cases b with
    | cons b c => cases c with
      | cons c d => cases d; exact ⟨_, _, _, rfl, a, b, c⟩
theorem ii_range3 {ta : TA} {a : MA} (h : ImAW K ta a) : ImI K (iRng3 ta) (r3M a) := fun dk H0 F0 F σ H env st ds st' g e R q => by
  obtain ⟨⟨xs, s1⟩, h1, e⟩ := bnd e
  refine h dk H0 F0 F σ H env st xs s1 g h1 _ fun vs F1 H1 x1 g1 r1 => ?_
  dsimp only at e
  split at e
  · split at e
    · rename_i i j c hj
      cases e
      obtain ⟨v, u, x, rfl, r, r', r''⟩ := r1.ws.three
      cases r.int
      cases r'.int
      cases r''.int
      obtain ⟨rfl, h2, h3, h4, h5⟩ := hj
      exact ⟨i, j, -1, (i - j).toNat, rfl, RgC.neg h2 h3 h4 h5, q _ F1 H1 x1 g1 (stdy_dn i (i - j).toNat)⟩
    · cases e
  · cases e
end
section
variable {K : Fg}
/-! xs[::-1] -/
def revM (f : ME) : MA := fun env st => (f env st).bind fun p => match dr p.2 p.1 with
  | .lst ds => some (ds.reverse, p.2)
  | _ => none
theorem Rps.reverse {dk : Dk} {F : Fz} : ∀ {vs : List V} {ds : List D}, Rps K dk F vs ds → Rps K dk F vs.reverse ds.reverse
  | _, _, .nil => .nil
  | _, _, .cons a b => by
    rw [List.reverse_cons, List.reverse_cons]
    exact (Rps.reverse b).append (Rps.one a)
theorem if_revL {te : TE} {f : ME} (h : ImW K te f) : ImF K (tRevL K te) (revM f) := fun dk H0 F0 F σ H env st ds st' g e Q q => by
  obtain ⟨⟨x, s1⟩, h1, e⟩ := bnd e
  refine h dk H0 F0 F σ H env st x s1 g h1 _ fun v F1 H1 x1 g1 r1 => ?_
  have r2 := r1.dr g1.wd
  dsimp only at e
  generalize dr s1 x = y at e r2
  split at e
  · cases e
    obtain ⟨a, vs, rfl, hl, r⟩ := r2.l g1.wd.sub
    refine ⟨a, vs, rfl, SqL.of hl, fun p hp => ?_⟩
    have px : Px F1 H1 F1 (upd H1 p (.lst vs.reverse)) := Px.lay g1.wd.sub hp
    exact q p _ F1 _ (x1.trans px.ext) (g1.px px) (x1.back hp) (g1.wd.out hp) upd_same r.reverse
  · cases e
end
/-! methods and makers by what a caller knows -/
section
variable {X : Cx} {k j : Nat} {c m : Str} {ps : List Str} {sp : Sp} {p pos apos : Pos} {e o : Expr} {es : List Expr} {ta : TE} {t : TA}
theorem pe_methC {pl : Sem Bool} (C : CalM X.prog X.w X.K X.mg X.base j c m ps sp) (hr : Room k X.A) (gd : X.A.guards = some []) (he : PE X o ta) (ha : PA X (e :: es) t) (hj : j ≤ k := by decide)
    (hst : starEach (e :: es) X.env = (false, eval e X.env) :: starEach es X.env := by rfl) (hpl : (backTo pos (starEach es X.env)).any (·.1) = false := by rfl)
    (ht : eval (.Call (.Attribute o m apos) (e :: es) [] pos) X.env = (do
      let ov ← eval o X.env
      standAt apos.atName
      let (f, first) ← holding [ov] (getMethod ov m pl)
      callWith pos f first (backTo pos (starEach (e :: es) X.env)) (backToKw pos (keywordEach [] X.env))) := by rfl) :
    PE X (.Call (.Attribute o m apos) (e :: es) [] pos) (tMeth C.choose m sp [] E0 ta t) := by
  obtain ⟨_, cl, f, fd, F, hm, hb⟩ := C.choose_spec
  exact pe_methG he cl hm F (hr.mono hj) gd hb ha hst hpl ht
theorem pe_methC0 {pl : Sem Bool} (C : CalM X.prog X.w X.K X.mg X.base j c m ps sp) (hr : Room k X.A) (gd : X.A.guards = some []) (he : PE X o ta) (hj : j ≤ k := by decide)
    (ht : eval (.Call (.Attribute o m apos) [] [] pos) X.env = (do
      let ov ← eval o X.env
      standAt apos.atName
      let (f, first) ← holding [ov] (getMethod ov m pl)
      callWith pos f first (backTo pos (starEach [] X.env)) (backToKw pos (keywordEach [] X.env))) := by rfl) :
    PE X (.Call (.Attribute o m apos) [] [] pos) (tMeth C.choose m sp [] E0 ta tNil) := by
  obtain ⟨_, cl, f, fd, F, hm, hb⟩ := C.choose_spec
  exact pe_methG0 he cl hm F (hr.mono hj) gd hb ht
theorem pe_makeC (C : CalK X.prog X.w X.K X.mg X.base j c ps sp) (hr : Room k X.A) (gd : X.A.guards = some []) (hg : Gl X c) (ha : PA X (e :: es) t) (hj : j + 1 ≤ k := by decide) (hdb : (c == ("__debug__" : Str)) = false := by decide)
    (he : starEach (e :: es) X.env = (false, eval e X.env) :: starEach es X.env := by rfl) (hpl : (backTo pos (starEach es X.env)).any (·.1) = false := by rfl) : PE X (.Call (.Name c p) (e :: es) [] pos) (tMake C.choose sp [] E0 t) := by
  obtain ⟨_, hm, f, fd, F, M, hb⟩ := C.choose_spec
  exact pe_makeG M F (hr.mono hj) gd hg hm hb ha hdb he hpl
end
section
variable {P : Program} {w : World} {K : Fg} {mg : Str → Option Value} {base : Heap} {j n : Nat} {c m : Str} {ps : List Str} {mf : MF} {to : TE} {ta : TA} {fo : ME} {a : MA} {E : XK}
theorem im_methC (C : CalM P w K mg base j c m ps (spD K (n + 1) mf)) (ho : Im K to fo) (ha : ImA K ta a) (hn : ∀ env st p, a env st = some p → p.1.length = n) : Im K (tMeth C.choose m (spD K (n + 1) mf) [] E to ta) (methM c m mf fo a) := im_meth C.choose_spec.1 ho ha hn
theorem im_makeC (C : CalK P w K mg base j c ps (spD K (n + 1) mf)) (ha : ImA K ta a) (hn : ∀ env st p, a env st = some p → p.1.length = n) : Im K (tMake C.choose (spD K (n + 1) mf) [] E ta) (makeM c mf a) := im_make C.choose_spec.1 ha hn
end
end MD

set_option Elab.async false
set_option linter.all false
set_option maxRecDepth 100000
set_option maxHeartbeats 1000000
namespace MD
open PySem PySem.Spec PyProof.Rows L2
variable {ww : WW}
section
variable {K : Fg}
/-! a field as a path -/
theorem pth_fld {cs fl : List Str} {f : Str} {to : TE} {fo : ME} (hc : ∀ c ∈ cs, ClsOk K c fl) (hf : f ∈ fl) (hp : Pth K to fo) : Pth K (tFld K to f) (fldM cs f fo) := fun dk H0 F0 F σ H env st d st' g e => by
  obtain ⟨⟨x, s1⟩, e1, e⟩ := bnd e
  obtain ⟨n, e2, e⟩ := bnd e
  obtain ⟨z, e3, e⟩ := bnd e
  obtain ⟨d', e4, e⟩ := mpd e
  cases e
  obtain ⟨es, v, r, q1, q2⟩ := hp dk H0 F0 F σ H env st x _ g e1
  have es' : s1 = st := es
  subst es'
  have hx : x = .ref n := refOf_eq e2
  subst hx
  obtain ⟨a, rfl, ha⟩ := r.refn
  obtain ⟨C, dx, vs, h1, h2, h3, h4⟩ := g.wd.insAt ha e3
  obtain ⟨u, h5, h6⟩ := lookF_rp h3 h4 e4
  have ok := hc _ (insAt_eq e3).2
  refine ⟨rfl, u, h6, fun Q q => q1 _ ⟨a, C, dx, _, u, rfl, h2, ok.cl C h1, ok.no C h1 f hf, h5, q⟩, fun b od kvs hb Q q => q2 b od kvs hb _ ⟨a, C, dx, _, u, rfl, ?_, ok.cl C h1, ok.no C h1 f hf, h5, q⟩⟩
  rw [upd_ne (fun z => by rw [z, hb] at h2; cases h2)]
  exact h2
/-! comprehensions over a list of the store -/
noncomputable def compLc (n : Nat) (ds0 : List D) (t : MG) (c : MT) (f : ME) (env : Sg) : List D → S → Option (List D × S)
  | [], st => cif (lstAt st n = some ds0) (some ([], st))
  | d :: ds, st => cif (lstAt st n = some ds0) ((t d env).bind fun e => (c e st).bind fun p => if p.1 then (f e p.2).bind fun q => (compLc n ds0 t c f env ds q.2).map fun r => (q.1 :: r.1, r.2) else compLc n ds0 t c f env ds p.2)
noncomputable def compR (fi : ME) (t : MG) (c : MT) (f : ME) (vs : List Nat) : MA := fun env st => (fi env st).bind fun p => match p.1 with
  | .ref n => (lstAt p.2 n).bind fun ds => if ds.length ≤ sizeLine then compLc n ds t c f (wipeE env vs) ds p.2 else none
  | d => (seqOf d).bind fun ds => if ds.length ≤ sizeLine then compL t c f (wipeE env vs) ds p.2 else none
theorem if_compR {ti : TE} {fi : ME} {g : TG} {tt : TT} {te : TE} {vs : List Nat} {t : MG} {c : MT} {f : ME} {is : List Nat} (h : Im K ti fi) (hg : ImG K g t is) (ht : ImT K tt c) (he : Im K te f) (hv : ∀ i ∈ is, i ∈ vs) :
    ImF K (tLc (iSeq K ti) g tt te vs) (compR fi t c f vs) := fun dk H0 F0 F σ H env st out st' gd e Q q => by
  obtain ⟨⟨d, s1⟩, e1, e⟩ := bnd e
  by_cases hr : ∃ n, d = .ref n
  · obtain ⟨n, rfl⟩ := hr
    obtain ⟨ds, eL, e⟩ := bnd (show ((lstAt s1 n).bind fun ds => if ds.length ≤ sizeLine then compLc n ds t c f (wipeE env vs) ds s1 else none) = some (out, st') from e)
    split at e
    · rename_i hz
      refine h dk H0 F0 F σ H env st _ s1 gd e1 _ fun v F1 H1 x1 g1 r1 => ?_
      obtain ⟨a, rfl, ha⟩ := r1.refn
      obtain ⟨vs0, hv0, rv0⟩ := g1.wd.lstAt ha eL
      refine .inl ⟨a, rfl, ⟨vs0, SqL.of hv0⟩, fun Dn hD => ?_⟩
      have hDH : H Dn = none := by
        cases w : H Dn with
        | none => rfl
        | some o => exact absurd hD (x1.m Dn (by rw [w]; exact fun z => nomatch z))
      have nd := g1.nedk hD
      have h0D := g1.fresh0 hD
      have noD := g1.noown hD
      have noW : ∀ (j : Nat) (es : Own), (wipeE env vs)[j]? = some (.own es) → (wipe σ vs)[j]? ≠ some (some (.ref Dn)) := fun j es e => by
        rcases wipeE_get e with z | ⟨z1, z2⟩
        · cases z
        · rw [wipe_off z2]; exact noD j es z1
      let P : Nat → Hp → Prop := fun i H => ∃ F2 st2 acc done rest, Le F1 F2 ∧ Ext dk F1 H1 F2 H ∧ Good K dk H0 F0 F2 (wipe σ vs) H (wipeE env vs) st2 ∧ H Dn = some (.lst acc) ∧ F2.out Dn ∧ acc.length ≤ i ∧ Rps K dk F2 acc done ∧
        compLc n ds t c f (wipeE env vs) (ds.drop i) st2 = some (rest, st') ∧ done ++ rest = out
      have px0 : Px F1 H1 F1 (upd H1 Dn (.lst [])) := Px.lay g1.wd.sub hD
      refine ⟨fun i m H => m = ds.length - i ∧ i ≤ ds.length ∧ P i H, ⟨_, rfl, Nat.zero_le _, F1, s1, [], [], out, Le.refl F1, px0.ext, (g1.wiped).px px0, upd_same, g1.wd.out hD, Nat.zero_le _, .nil, e, rfl⟩, ?_⟩
      rintro i m H2 ⟨rfl, hle, F2, s2, acc, done, rest, le2, x2, g2, hacc, f2, hal, racc, e2, eo⟩
      by_cases hlt : i < ds.length
      · have hdi : ds[i]? = some ds[i] := List.getElem?_eq_getElem hlt
        rw [List.drop_eq_getElem_cons hlt] at e2
        obtain ⟨ck, e2⟩ := of_cif e2
        obtain ⟨us, hu, ru⟩ := g2.wd.lstAt (le2.at ha) ck
        obtain ⟨w, k1, k2⟩ := ru.get hdi
        refine .inr ⟨⟨us, w, SqL.of hu, k1⟩, P (i + 1), fun H' hp => ⟨_, by omega, rfl, hlt, hp⟩, fun x H3 hx => ?_⟩
        obtain ⟨ee, e4⟩ := hx
        subst ee
        have ev := e4 us (SqL.of hu)
        rw [k1] at ev
        cases ev
        obtain ⟨env3, e3, e2⟩ := bnd e2
        obtain ⟨⟨b, s4⟩, e4', e2⟩ := bnd e2
        refine hg dk H0 F0 F2 (wipe σ vs) _ (wipeE env vs) s2 w _ env3 g2 k2 e3 _ fun σ4 g4 tg => ?_
        have same : ∀ j : Nat, j ∉ vs → σ4[j]? = (wipe σ vs)[j]? ∧ env3[j]? = (wipeE env vs)[j]? := fun j hj => tg.same j fun z => hj (hv j z)
        have weq : wipe σ4 vs = wipe σ vs := by
          rw [wipe_eq tg.len fun j hj => (same j hj).1, wipe_wipe]
        have back : ∀ {F5 : Fz} {H5 : Hp} {st5 : S}, Good K dk H0 F0 F5 σ4 H5 env3 st5 → Good K dk H0 F0 F5 (wipe σ vs) H5 (wipeE env vs) st5 := fun {F5 H5 st5} g5 =>
          g5.reslot (by rw [wipe_length, wipeE_length]; exact gd.len) fun j s es => by
            rcases wipeE_get es with z | ⟨z1, z2⟩
            · exact .inl z
            · exact .inr ⟨(same j z2).2.trans es, (same j z2).1.symm⟩
        refine ⟨weq, ?_⟩
        refine ht dk H0 F0 F2 σ4 _ env3 s2 b s4 g4 e4' _ fun F5 H5 x5 g5 => ?_
        have a5 : H5 Dn = some (.lst acc) := x5.h _ _ hacc nd.1 nd.2 (.inl f2.2)
        have f5 : F5.out Dn := x5.out f2 (by rw [hacc]; exact fun z => nomatch z)
        cases b with
        | false =>
          exact ⟨F5, s4, acc, done, rest, le2.trans x5.f, x2.trans x5, back g5, a5, f5, by omega, racc.mono x5.f, e2, eo⟩
        | true =>
          replace e2 : ((f env3 s4).bind fun q => (compLc n ds t c f (wipeE env vs) (ds.drop (i + 1)) q.2).map fun r => (q.1 :: r.1, r.2)) = some (rest, st') := e2
          obtain ⟨⟨y, s6⟩, e6, e2⟩ := bnd e2
          obtain ⟨⟨rest', s7⟩, e7, e2⟩ := mpd e2
          cases e2
          refine he dk H0 F0 F5 σ4 H5 env3 s4 y s6 g5 e6 _ fun v F6 H6 x6 g6 r6 => ?_
          have x26 := x5.trans x6
          have a6 : H6 Dn = some (.lst acc) := x26.h _ _ hacc nd.1 nd.2 (.inl f2.2)
          have f6 : F6.out Dn := x26.out f2 (by rw [hacc]; exact fun z => nomatch z)
          refine ⟨acc, a6, by omega, F6, s6, acc ++ [v], done ++ [y], rest', le2.trans x26.f, ?_, (back g6).mutT a6 f6 h0D nd.1 nd.2 noW, upd_same, f6, by simp; omega, (racc.mono x26.f).append (Rps.one r6), e7, by rw [← eo]; simp⟩
          exact (x2.trans x26).upd hD
      · have ei : i = ds.length := by omega
        subst ei
        rw [List.drop_length] at e2
        obtain ⟨ck, e2⟩ := of_cif e2
        cases e2
        obtain ⟨us, hu, ru⟩ := g2.wd.lstAt (le2.at ha) ck
        refine .inl ⟨⟨us, SqL.of hu, by rw [ru.length]; exact Nat.le_refl _⟩, ?_⟩
        rw [List.append_nil] at eo
        subst eo
        have g9 : Good K dk H0 F0 F2 σ H2 env st' := g1.step x2 g2.wd
        exact q Dn acc F2 H2 (x1.trans x2) g9 hDH f2 hacc racc
    · cases e
  · refine if_comp (ii_seq h) hg ht he hv dk H0 F0 F σ H env st out st' gd ?_ Q q
    have ee : ((seqOf d).bind fun ds => if ds.length ≤ sizeLine then compL t c f (wipeE env vs) ds s1 else none) = some (out, st') := by
      cases d with
      | ref n => exact absurd ⟨n, rfl⟩ hr
      | _ => exact e
    obtain ⟨ds, e2, e3⟩ := bnd ee
    show ((seqI fi env st).bind fun p => if p.1.length ≤ sizeLine then compL t c f (wipeE env vs) p.1 p.2 else none) = _
    have : seqI fi env st = some (ds, s1) := by
      unfold seqI
      rw [e1]
      show (seqOf d).map _ = _
      rw [e2]; rfl
    rw [this]
    exact e3
theorem compLc_eq {n : Nat} {ds0 : List D} {t : MG} {c : MT} {f : ME} {env : Sg} {st : S} (hn : lstAt st n = some ds0) : ∀ {ds out : List D}, compL t c f env ds st = some (out, st) → (∀ d ∈ ds, ∀ e, t d env = some e → (∀ p, c e st = some p → p.2 = st) ∧ ∀ p, f e st = some p → p.2 = st) → compLc n ds0 t c f env ds st = some (out, st)
  | [], out, h, _ => by
    cases h
    exact cif_of hn
  | d :: ds, out, h, hp => by
    unfold compLc
    rw [cif_of hn]
    obtain ⟨e, e1, h⟩ := bnd (show ((t d env).bind fun e => (c e st).bind fun p => if p.1 then (f e p.2).bind fun q => (compL t c f env ds q.2).map fun r => (q.1 :: r.1, r.2) else compL t c f env ds p.2) = _ from h)
    obtain ⟨⟨b, s1⟩, e2, h⟩ := bnd h
    have p1 := (hp d (by simp) e e1).1 _ e2
    have p1' : s1 = st := p1
    subst p1'
    rw [e1]
    show ((c e s1).bind _) = _
    rw [e2]
    cases b with
    | false => exact compLc_eq hn h fun d' hd => hp d' (List.mem_cons_of_mem _ hd)
    | true =>
      obtain ⟨⟨y, s2⟩, e3, h⟩ := bnd (show ((f e s1).bind fun q => (compL t c f env ds q.2).map fun r => (q.1 :: r.1, r.2)) = _ from h)
      have p2 : s2 = s1 := (hp d (by simp) e e1).2 _ e3
      subst p2
      obtain ⟨⟨r, s3⟩, e4, h⟩ := mpd h
      cases h
      show ((f e _).bind _) = _
      rw [e3]
      show ((compLc n ds0 t c f env ds _).map _) = _
      rw [compLc_eq hn e4 fun d' hd => hp d' (List.mem_cons_of_mem _ hd)]
      rfl
end
/-! the law, where the deck comes with an own list -/
def env2 (n : Nat) : Sg := .un :: .val .deck :: .own (.lst, []) :: List.replicate (n - 3) .un
section
variable {P : Program} {w : World} {K : Fg} {mg : Str → Option Value} {base : Heap}
theorem fn_law2 {x qual : Str} {st : Stmt} {f : Addr} {fd : FuncData} {N ps : List Str} {k : Nat} {b : MS} (Fn : Fun K x qual st f fd) (S : FnScope N ps (defScope st)) (hN : 3 ≤ N.length) (hp : ps.length = 1)
    (hb : ∀ ns : List Int, ns.length ≤ 63 → ∃ s1, b (env2 N.length) ⟨ns.map absI, 0, []⟩ = some (.rt (.bl true), s1))
    (hbody : ∀ (cdv : Value) (A : Around) (outer : List Env) (s : Shared) (H : Hp) (E : XK), Room k (A.deeper (envOfC qual (defScope st) s.heap.objs.size f cdv)) → (A.deeper (envOfC qual (defScope st) s.heap.objs.size f cdv)).guards = some [] →
      ∃ tn t, PSs (cxOf CX0 P w K mg base N qual (defScope st) f cdv A outer s H E).nox (defBody st) (tSeq (tPar 1 2 (tCons (tCall (spDeck K) [] E0 (tCons (tVar 0) tNil)) (tCons tn tNil))) t) ∧ ImF K tn (lstM aNil) ∧ ImS K t b) : FnG P w K mg base (k + 1) f fd ps (spLaw K) := by
  refine fnG_of Fn S (fun vs H Q E h => ?_) fun cdv A outer s H vs Q E hr gd h => ?_
  · obtain ⟨a, ns, rfl, _⟩ := h
    rw [hp]; rfl
  · obtain ⟨a, ns, rfl, hs, hl, q⟩ := h
    obtain ⟨tn, t, h1, hn, h2⟩ := hbody cdv A outer s H E hr gd
    refine ⟨_, h1, ?_⟩
    obtain ⟨m, hm⟩ : ∃ m, N.length = m + 3 := ⟨N.length - 3, by omega⟩
    have es : L2.start N [V.ref a] = some (.ref a) :: none :: none :: List.replicate m none := by
      unfold L2.start
      rw [hm]
      rfl
    rw [es]
    refine ⟨_, rfl, a, ns, rfl, hs, hl, fun dk H' le wd => ?_⟩
    obtain ⟨s1, hr1⟩ := hb ns hl
    have g : Good K dk H' ⟨fun _ => none, []⟩ ⟨fun _ => none, []⟩ (some (.ref a) :: none :: none :: List.replicate m none) H' (List.replicate N.length .un) ⟨ns.map absI, 0, []⟩ := by
      refine ⟨wd, Ext.refl _ _, by rw [hm]; simp, fun i s e => ?_, fun i j ds es p hne e1 e2 e3 => ?_⟩
      · rw [List.getElem?_replicate] at e
        split at e
        · cases e; trivial
        · cases e
      · rw [List.getElem?_replicate] at e1
        split at e1 <;> cases e1
    refine hn.x dk H' _ _ _ H' _ _ (.own (.lst, [])) _ g rfl _ fun u F2 H2 x2 g2 k2 => ?_
    have g3 : Good K dk H' ⟨fun _ => none, []⟩ F2 ((some (.ref a) :: none :: none :: List.replicate m none).set 1 (some (.ref dk.1))) H2 ((List.replicate N.length .un).set 1 (.val .deck)) ⟨ns.map absI, 0, []⟩ := g2.set .deck
    have g4 : Good K dk H' ⟨fun _ => none, []⟩ F2 (((some (.ref a) :: none :: none :: List.replicate m none).set 1 (some (.ref dk.1))).set 2 (some u)) H2 (((List.replicate N.length .un).set 1 (.val .deck)).set 2 (.own (.lst, []))) ⟨ns.map absI, 0, []⟩ := g3.setX k2 (fun p hp => g.fresh0 hp) fun p hp jj es hj z => by
      by_cases hi : 1 = jj
      · subst hi
        rw [hm] at hj
        cases hj
      · rw [List.getElem?_set_ne hi] at hj
        rw [List.getElem?_replicate] at hj
        split at hj <;> cases hj
    have ee : ((List.replicate N.length Sl.un).set 1 (.val .deck)).set 2 (.own (.lst, [])) = env2 N.length := by
      rw [hm]; rfl
    rw [ee] at g4
    refine ⟨_, _, rfl, ?_⟩
    refine h2 dk H' _ F2 _ H2 _ _ _ s1 g4 hr1 _ ?_
    intro v F' H3 _ _ r
    cases r
    exact q H3
end
/-! making what a caller knows -/
theorem clsOk_mk {K : Fg} {c : Str} {C : Addr} {fl : List Str} (h : PySem.W.nsIn K mainGlobals c = some (some (.ref C))) (cl : Cls K C) (no : ∀ f ∈ fl, NoAttr K C f) : ClsOk K c fl := by
  have e : clsOf K c = some C := by unfold clsOf; rw [h]
  refine ⟨fun C' h' => ?_, fun C' h' => ?_⟩ <;> (rw [e] at h'; cases h')
  · exact cl
  · exact no
theorem calM_mk {P : Program} {w : World} {K : Fg} {mg : Str → Option Value} {base : Heap} {k : Nat} {c m : Str} {ps : List Str} {sp : Sp} {C f : Addr} {fd : FuncData} (h : PySem.W.nsIn K mainGlobals c = some (some (.ref C))) (cl : Cls K C) (F : FnG P w K mg base k f fd ps sp) (M : Meth K C m f) (b : Binds K fd ps []) : CalM P w K mg base k c m ps sp :=
  ⟨C, by unfold clsOf; rw [h], cl, f, fd, F, M, b⟩
theorem calK_mk {P : Program} {w : World} {K : Fg} {mg : Str → Option Value} {base : Heap} {k : Nat} {c : Str} {ps : List Str} {sp : Sp} {C f : Addr} {fd : FuncData} (h : PySem.W.nsIn K mainGlobals c = some (some (.ref C))) (hm : mg c = some (.ref C)) (F : FnG P w K mg base k f fd ps sp) (M : Mk K C f) (b : Binds K fd ps []) : CalK P w K mg base k c ps sp :=
  ⟨C, by unfold clsOf; rw [h], hm, f, fd, F, M, b⟩
end MD

set_option Elab.async false
set_option linter.all false
set_option maxRecDepth 100000
set_option maxHeartbeats 1000000
namespace MD
open PySem PySem.Spec PyProof.Rows L2
variable {ww : WW}
/-! ### a text, so many times -/
def repT (x : Str) (k : Int) : Str := if k < 1 then Str.empty else if (k == 1 || x.length == 0) = true then x else ⟨(List.replicate k.toNat x.cps).foldl (· ++ ·) #[]⟩
theorem rep_fold (l : Array Nat) : ∀ (n : Nat) (a : Array Nat), ((List.replicate n l).foldl (· ++ ·) a).toList = a.toList ++ (List.replicate n l.toList).flatten
  | 0, a => by simp
  | n + 1, a => by rw [List.replicate_succ, List.foldl_cons, rep_fold l n, List.replicate_succ, List.flatten_cons, Array.toList_append, List.append_assoc]
theorem rep_flat_nil (n : Nat) : (List.replicate n ([] : List Nat)).flatten = [] := by
  induction n with
  | zero => rfl
  | succ n ih => rw [List.replicate_succ, List.flatten_cons, ih]; rfl
theorem repT_list (x : Str) (k : Int) : (repT x k).cps.toList = (List.replicate k.toNat x.cps.toList).flatten := by
  unfold repT
  split
  · rename_i h
    have : k.toNat = 0 := by omega
    rw [this]; rfl
  · split
    · rename_i h1 h2
      rcases Bool.or_eq_true_iff.mp h2 with z | z
      · have : k = 1 := by simpa using z
        subst this; simp
      · have : x.cps.toList = [] := by
          have h3 : x.cps.size = 0 := (by simpa using z : x.length = 0)
          exact List.eq_nil_of_length_eq_zero (by simpa using h3)
        rw [this, rep_flat_nil]
    · exact (rep_fold x.cps k.toNat #[]).trans (by simp)
theorem rep_len (l : List Nat) : ∀ n : Nat, (List.replicate n l).flatten.length = n * l.length
  | 0 => by simp
  | n + 1 => by rw [List.replicate_succ, List.flatten_cons, List.length_append, rep_len l n, Nat.succ_mul]; omega
theorem repT_len (x : Str) (k : Int) : (repT x k).length = k.toNat * x.length := by
  have h := congrArg List.length (repT_list x k)
  rw [rep_len, Array.length_toList, Array.length_toList] at h
  exact h
def rMulS : R2 := fun x y H Q => ∃ i k, x = .str i ∧ y = .int k ∧ i.length ≤ 10000 ∧ -1000 ≤ k ∧ k ≤ 1000 ∧ Q (.str (repT i k)) H
theorem op_mulS {X : Cx} : OpR X (binaryOp .Mult) rMulS := by
  intro pins s σ H x y v u Q I rx ry h
  obtain ⟨i, k, rfl, rfl, hz, k0, k1, q⟩ := h
  obtain ⟨t, rfl⟩ := rx
  obtain ⟨t', rfl⟩ := ry
  have hle : k.toNat * i.length ≤ 10000000 := by
    have h1 : k.toNat ≤ 1000 := by omega
    exact Nat.le_trans (Nat.mul_le_mul h1 hz) (by decide)
  refine P.mul_str (by rw [decide_eq_false (by omega), decide_eq_false (by omega)] <;> rfl) (fun h1 h2 h3 => ?_) (fun h1 h2 => ?_) ?_
  · have h4 : ((i.length : Int) ≤ 10000) := by omega
    have h5 : (10000 : Int) ≤ (2 ^ 63 - 1) / k := by
      refine (Int.le_ediv_iff_mul_le (by omega)).mpr ?_
      have : 10000 * k ≤ 10000 * 1000 := by omega
      exact Int.le_trans this (by decide)
    omega
  · unfold Builtin.Str.tooLong
    refine decide_eq_false ?_
    have : i.length * k.toNat ≤ 10000000 := by rw [Nat.mul_comm]; exact hle
    exact Nat.not_lt.mpr (Nat.le_trans this (by decide))
  · have hl : (repT i k).length ≤ sizeLine := by rw [repT_len]; exact Nat.le_trans hle (by decide)
    unfold repT at hl q
    by_cases h1 : k < 1
    · simp only [if_pos h1] at hl q ⊢
      exact ⟨hl, .str _, H, I.tok _, ⟨_, rfl⟩, q⟩
    · simp only [if_neg h1] at hl q ⊢
      by_cases h2 : (k == 1 || i.length == 0) = true
      · simp only [if_pos h2] at hl q ⊢
        exact ⟨.str _, H, I, ⟨_, rfl⟩, q⟩
      · simp only [if_neg h2] at hl q ⊢
        exact ⟨hl, .str _, H, I.tok _, ⟨_, rfl⟩, q⟩
section
variable {K : Fg}
def mulS : D → D → Option D
  | .str x, .int k => if x.length ≤ 10000 ∧ -1000 ≤ k ∧ k ≤ 1000 then some (.str (repT x k)) else none
  | _, _ => none
theorem ro_mulS : RO K rMulS mulS := by
  intro dk F H st x y d e z w rx ry hz Q q
  unfold mulS at hz
  split at hz
  · rename_i x k
    split at hz
    · rename_i hc
      cases hz
      cases rx.str
      cases ry.int
      exact ⟨x, k, rfl, rfl, hc.1, hc.2.1, hc.2.2, q _ F H (Px.refl w.sub) (.str _)⟩
    · cases hz
  · cases hz
end
/-! ### list(text) -/
def rListS : List V → Hp → VK → Prop := fun xs H Q => ∃ x, xs = [.str x] ∧ x.cps.size ≤ sizeLine ∧ ∀ p, H p = none → Q (.ref p) (upd H p (.lst ((signs x).map V.str)))
theorem call_listS {X : Cx} (hc : X.calm = true) : CallR X (.type "list") rListS := by
  intro pins s σ H xs us Q I rs h
  obtain ⟨x, rfl, hz, q⟩ := h
  obtain ⟨u, rfl, rx⟩ := vals1 rs
  obtain ⟨t, rfl⟩ := rx
  refine call_list_str (I.ok.hd hc) x t (fun h' tk acc c' hk hl hi => ?_) hz
  have lenA : acc.toList.length = (signs x).length := by
    unfold signs
    rw [List.length_map, Array.length_toList, Array.length_toList]
    exact hi.1
  have vals : Vals ((signs x).map V.str) acc.toList := by
    have key : ∀ (l : List Value) (m : List Nat), l.length = m.length → (∀ (j : Nat) (v : Value), l[j]? = some v → ∃ c u, m[j]? = some c ∧ v = .str ⟨#[c]⟩ u) → Vals ((m.map fun c => (⟨#[c]⟩ : Str)).map V.str) l := by
      intro l
      induction l with
      | nil => intro m hm _; cases m with
        | nil => exact .nil
        | cons _ _ => cases hm
      | cons a l ih => intro m hm hj; cases m with
        | nil => cases hm
        | cons c m =>
          obtain ⟨c', u, e1, e2⟩ := hj 0 a rfl
          have e1' : c = c' := Option.some.inj e1
          subst e1' e2
          exact .cons ⟨u, rfl⟩ (ih m (by simpa using hm) fun j v hv => hj (j + 1) v hv)
    refine key acc.toList x.cps.toList (by simpa [signs] using lenA) fun j v hv => ?_
    obtain ⟨c, u, h1, h2⟩ := hi.2 j v (by simpa using hv)
    exact ⟨c, u, by simpa using h1, h2⟩
  refine ⟨.ref s.heap.objs.size, _, I.laid (t' := tk) hk (Nat.le_refl _) (show ObjOk X.prog X.w _ h' _ (.lst ((signs x).map V.str)) from ⟨?_, acc.toList, c', vals, ?_⟩), rfl, q _ (I.hok.fresh (Nat.le_refl _))⟩
  · rw [List.length_map]
    unfold signs
    rw [List.length_map, Array.length_toList]
    exact hz
  · rw [hl, Array.toArray_toList]
def listSM (f : ME) : MA := fun env st => (f env st).bind fun p => match p.1 with
  | .str x => if x.cps.size ≤ sizeLine then some ((signs x).map D.str, p.2) else none
  | _ => none
theorem if_listS {K : Fg} {ta : TA} {f : ME} (ha : ImAW K ta (aCons f aNil)) : ImF K (tCB rListS ta) (listSM f) := fun dk H0 F0 F σ H env st d st' g e Q q => by
  obtain ⟨⟨x, s1⟩, h1, e⟩ := bnd e
  have h1' : aCons f aNil env st = some ([x], s1) := by
    show (f env st).bind _ = _
    rw [h1]; rfl
  refine ha dk H0 F0 F σ H env st [x] s1 g h1' _ fun vs F1 H1 x1 g1 r1 => ?_
  cases x with
  | str y =>
    replace e : (if y.cps.size ≤ sizeLine then some ((signs y).map D.str, s1) else none) = some (d, st') := e
    split at e
    · rename_i hz
      cases e
      obtain ⟨v, rfl, r⟩ := (r1.dr g1.wd).one
      cases r.str
      refine ⟨y, rfl, hz, fun p hp => ?_⟩
      have px : Px F1 H1 F1 (upd H1 p (.lst ((signs y).map V.str))) := Px.lay g1.wd.sub hp
      exact q p _ F1 _ (x1.trans px.ext) (g1.px px) (x1.back hp) (g1.wd.out hp) upd_same (Rps.ofStrs _)
    · cases e
  | _ => cases e
/-! ### a test of the form: a if c else b -/
def tIfT (t u v : TT) : TT := fun σ H Q => t σ H fun c H1 => if c = true then u σ H1 Q else v σ H1 Q
theorem pt_ifExp {X : Cx} {a b c : Expr} {pos : Pos} {t u v : TT} (hc : PT X c t) (ha : PT X a u) (hb : PT X b v) : PT X (.IfExp c a b pos) (tIfT t u v) := by
  refine ⟨fun pins s σ H Q I h => ?_⟩
  rw [arm_isTrue_IfExp]
  refine wpAny_bind (thn (hc.run pins s σ H _ I h) fun d s1 ⟨H1, I1, q1⟩ => ?_)
  cases d with
  | true => exact ha.run pins s1 σ H1 Q I1 q1
  | false => exact hb.run pins s1 σ H1 Q I1 q1
def ifT (c f h : MT) : MT := fun env st => (c env st).bind fun p => if p.1 then f env p.2 else h env p.2
theorem it_if {K : Fg} {t u v : TT} {c f h : MT} (h0 : ImT K t c) (h1 : ImT K u f) (h2 : ImT K v h) : ImT K (tIfT t u v) (ifT c f h) := fun dk H0 F0 F σ H env st b st' g e Q q => by
  obtain ⟨⟨x, s1⟩, e1, e⟩ := bnd e
  refine h0 dk H0 F0 F σ H env st x s1 g e1 _ fun F1 H1 x1 g1 => ?_
  cases x with
  | true => exact h1 dk H0 F0 F1 σ H1 env s1 b st' g1 e Q fun F2 H2 x2 g2 => q F2 H2 (x1.trans x2) g2
  | false => exact h2 dk H0 F0 F1 σ H1 env s1 b st' g1 e Q fun F2 H2 x2 g2 => q F2 H2 (x1.trans x2) g2
end MD

set_option Elab.async false
set_option linter.all false
set_option maxRecDepth 100000
set_option maxHeartbeats 1000000
namespace MD
open PySem PySem.Spec PyProof.Rows L2
variable {ww : WW}
/-! ### t[::-1], t a tuple -/
section
variable {prog : Program} {w : World} {A : Around} {E : Value → Shared → Prop} {s : Shared}
theorem adj_rev (n : Nat) : Builtin.Slice.sliceAdjust none none (-1) (n : Int) = ((n : Int) - 1, -1) := by
  first
  | rfl
  | simp [Builtin.Slice.sliceAdjust]
theorem places_rev (n : Nat) : Builtin.Slice.slicePlaces ((n : Int) - 1) (-1) (-1) = n := by
  unfold Builtin.Slice.slicePlaces
  have h1 : ¬ ((-1 : Int) > 0) := by decide
  simp only [h1, if_false]
  split
  · rename_i h
    have e : ((n : Int) - 1 - -1 - 1) / (- -1) + 1 = (n : Int) := by
      rw [show (- -1 : Int) = 1 by decide, Int.ediv_one]
      omega
    first
    | (rw [e]; simp)
    | (simp at *; omega)
  · omega
theorem fmap_congr {α β : Type} {f g : α → Option β} : ∀ (l : List α), (∀ x ∈ l, f x = g x) → l.filterMap f = l.filterMap g
  | [], _ => rfl
  | x :: l, h => by
    rw [List.filterMap_cons, List.filterMap_cons, h x List.mem_cons_self, fmap_congr l fun y hy => h y (List.mem_cons_of_mem _ hy)]
theorem pick_rev (xs : Array Value) : ((List.range xs.size).filterMap fun (k : Nat) => xs[(((xs.size : Nat) : Int) - 1 + (k : Int) * (-1)).toNat]?).toArray = xs.toList.reverse.toArray := by
  have h := PySem.W.krv_range xs.size
  have e : ((List.range xs.size).filterMap fun (k : Nat) => xs[(((xs.size : Nat) : Int) - 1 + (k : Int) * (-1)).toNat]?) = ((List.range xs.size).map fun k => xs.size - 1 - k).filterMap (xs[·]?) := by
    rw [List.filterMap_map]
    refine fmap_congr _ fun k hk => ?_
    have := List.mem_range.mp hk
    show _ = xs[xs.size - 1 - k]?
    have : (((xs.size : Nat) : Int) - 1 + (k : Int) * (-1)).toNat = xs.size - 1 - k := by omega
    rw [this]
  rw [e, h, List.filterMap_reverse, PySem.W.krv_all]
theorem sliceApplied_rev {sl : Addr} {vl vu vs : Value} {n : Nat} {Q : Int × Int × Nat → Shared → Prop} (hs : s.heap.IsSliceOf sl vl vu vs) (pl : IsPart vl none) (pu : IsPart vu none) (ps : IsPart vs (some (-1)))
    (h : Q ((n : Int) - 1, -1, n) s) : wpAny (model prog w) A (Builtin.Slice.sliceApplied (.ref sl) (pure (n : Int))) Q E s := by
  obtain ⟨os, hos, hcs, hds⟩ := id hs
  unfold Builtin.Slice.sliceApplied Builtin.Slice.sliceFields
  refine wpAny_bind (wpAny_bind (wpAny_field hos hds (x := vl) rfl (wpAny_bind (wpAny_field hos hds (x := vu) rfl (wpAny_bind (wpAny_field hos hds (x := vs) rfl (wpAny_pure ?_)))))))
  refine wpAny_bind (HT.slicePart_ ps ?_)
  show wpAny _ _ (if ((-1 : Int) == 0) = true then _ else _) _ _ s
  rw [if_neg (by decide)]
  refine wpAny_bind (HT.slicePart_ pl (wpAny_bind (HT.slicePart_ pu (wpAny_bind (wpAny_pure ?_)))))
  show wpAny _ _ (match Builtin.Slice.sliceAdjust none none (-1) (n : Int) with | (lo, hi) => pure (lo, (-1 : Int), Builtin.Slice.slicePlaces lo hi (-1))) _ _ s
  rw [adj_rev n]
  show wpAny _ _ (pure ((n : Int) - 1, (-1 : Int), Builtin.Slice.slicePlaces ((n : Int) - 1) (-1) (-1))) _ _ s
  rw [places_rev]
  exact wpAny_pure h
theorem getItem_tuple_rev {t sl : Addr} {items : Array Value} {vl vu vs : Value} {Q : Value → Shared → Prop} (ht : IsTup s.heap t items) (hs : s.heap.IsSliceOf sl vl vu vs) (pl : IsPart vl none) (pu : IsPart vu none) (ps : IsPart vs (some (-1)))
    (h : Q (.ref s.heap.objs.size) { s with heap := s.heap.push { cls := .type "tuple", data := .seq items.toList.reverse.toArray } })
    (hsz : items.size ≤ sizeLine) : wpAny (model prog w) A (getItem (.ref t) (.ref sl)) Q E s := by
  have htake : sizeOk (.seq items.toList.reverse.toArray) := by
    show items.toList.reverse.toArray.size ≤ sizeLine
    rw [List.size_toArray, List.length_reverse, Array.length_toList]
    exact hsz
  obtain ⟨os, hos, hcs, hds⟩ := id hs
  have hTs : s.TypeIs (.ref sl) "slice" := ⟨os, hos, hcs⟩
  unfold getItem
  try with_reducible refine wpAny_holding ?_
  first | refine wpAny_bind (wpAny_pure ?_) | skip
  refine wpAny_bind (wpAny_sequenceKey ht.typeIs (by decide) ?_)
  refine wpAny_bind (wpAny_callSpecial?_slot (name := Str.ofString "__getitem__") ht.typeIs PyProof.Rows.slot_tuple_getitem
    (wpAny_call_entry PyProof.Rows.slot_tuple_getitem ht.typeIs entry_tuple_getitem ?_ (args_tuple_getitem _ _)))
  show wpAny _ _ (Builtin.Tuple.tupleItemsOf (.ref t) >>= _) _ _ s
  refine wpAny_bind (tupleItemsOf_ ht ?_)
  refine wpAny_bind (wpAny_typeOf hTs ?_)
  rw [if_pos (by decide)]
  refine wpAny_bind (sliceApplied_rev hs pl pu ps ?_)
  have hno : ¬ ((((items.size : Int) - 1) == 0 && (-1 : Int) == 1 && items.size == items.size) = true) := by
    intro q
    rw [Bool.and_eq_true, Bool.and_eq_true] at q
    exact absurd q.1.2 (by decide)
  show wpAny _ _ (if (((items.size : Int) - 1) == 0 && (-1 : Int) == 1 && items.size == items.size) = true then _ else _) _ _ s
  rw [if_neg hno, pick_rev]
  first
    | exact wpAny_bind (m := Builtin.Tuple.tupleExact _) (wpAny_newObj_type (wpAny_pure ⟨_, rfl, wpAny_pure h⟩) htake)
    | exact wpAny_bind (m := Builtin.Tuple.tupleExact _) (wpAny_newObj_type (wpAny_bind (wpAny_pure (wpAny_pure ⟨_, rfl, wpAny_pure h⟩))) htake)
    | exact wpAny_bind (wpAny_bind (m := Builtin.Tuple.tupleExact _) (wpAny_newObj_type (wpAny_pure (wpAny_pure ⟨_, rfl, wpAny_pure h⟩)) htake))
    | exact wpAny_bind (wpAny_bind (m := Builtin.Tuple.tupleExact _) (wpAny_newObj_type (wpAny_pure ⟨_, rfl, wpAny_pure h⟩) htake))
end
section
variable {X : Cx}
def tRevT (K : PySem.W.Frag) (te : TE) : TE := fun σ H Q => te σ H fun x H1 => ∃ a xs, x = .ref a ∧ SqT K H1 a xs ∧ ∀ p, H1 p = none → Q (.ref p) (upd H1 p (.tup xs.reverse))
theorem pe_revT {e : Expr} {te : TE} {k : Nat} {p1 p2 p3 pos : Pos} (he : PE X e te) : PE X (.Subscript e (.Slice none none (some (.UnaryOp .USub (.Constant (.int 1) k p1) p2)) p3) pos) (tRevT X.K te) := by
  refine ⟨fun pins s σ H Q I h => ?_⟩
  refine Subscript_ (thn (he.run pins s σ H _ I h) fun v s1 ⟨x, H1, I1, r1, q1⟩ => ?_)
  obtain ⟨a, xs, ex, hx, q⟩ := q1
  subst ex
  cases r1
  have hst : PO X (some (.UnaryOp .USub (.Constant (.int 1) k p1) p2)) (tPart (tUn (rU fun i => .int (-i)) (tC (.int 1)))) := po_some (pe_un un_neg pe_int)
  refine wpAny_Slice (thn (po_none.run pins s1 σ H1 (fun o H2 => o = none ∧ H2 = H1) I1 ⟨rfl, rfl⟩) fun vl s2 ⟨l, H2, I2, pl, el, e2⟩ => ?_)
  subst el e2
  refine thn (po_none.run pins s2 σ H2 (fun o H3 => o = none ∧ H3 = H2) I2 ⟨rfl, rfl⟩) fun vu s3 ⟨u, H3, I3, pu, eu, e3⟩ => ?_
  subst eu e3
  refine thn (hst.run pins s3 σ H3 (fun o H4 => o = some (-1) ∧ H4 = H3) I3 ⟨1, rfl, -1, rfl, rfl, rfl⟩) fun vs s4 ⟨o, H4, I4, ps, eo, e4⟩ => ?_
  subst eo e4
  have I5 : Inv X pins σ H4 { s4 with heap := s4.heap.push { cls := .type "slice", data := .fields #[vl, vu, vs] } } := I4.kept (t' := s4.toks) fun b ob q => Heap.get?_push_of_some _ q
  obtain ⟨its, r, ht, hz⟩ := I5.tuple hx
  have hlen : its.toArray.size = xs.length := by rw [List.size_toArray]; exact r.length.symm
  show wpAny (model X.prog X.w) X.A (subscriptTail e (.Slice none none (some (.UnaryOp .USub (.Constant (.int 1) k p1) p2)) p3) (.ref a) (.ref s4.heap.objs.size)) (EP X pins σ Q) X.xe { s4 with heap := s4.heap.push { cls := .type "slice", data := .fields #[vl, vu, vs] } }
  refine tail_any (ops := [.ref a, .ref s4.heap.objs.size]) ht.typeIs (PyProof.Rows.slot_tuple_getitem.lookup) ?_ (by with_unfolding_all rfl)
  refine getItem_tuple_rev ht (Heap.IsSliceOf.new _ vl vu vs) pl pu ps ?_ (by rw [hlen]; exact hz)
  refine ⟨.ref _, _, I5.laid (t' := s4.toks) (o := .tup xs.reverse) (fun b ob q => Heap.get?_push_of_some _ q) (Nat.le_refl _) ?_, rfl, q _ (I5.hok.fresh (Nat.le_refl _))⟩
  exact ⟨by rw [List.length_reverse]; exact hz, _, r.reverse, IsTup.new _ _⟩
end
section
variable {K : Fg}
def revT (f : ME) : ME := fun env st => (f env st).bind fun p => match dr p.2 p.1 with
  | .tup ds => some (.tup ds.reverse, p.2)
  | _ => none
theorem im_revT {te : TE} {f : ME} (h : ImW K te f) : Im K (tRevT K te) (revT f) := fun dk H0 F0 F σ H env st d st' g e Q q => by
  obtain ⟨⟨x, s1⟩, h1, e⟩ := bnd e
  refine h dk H0 F0 F σ H env st x s1 g h1 _ fun v F1 H1 x1 g1 r1 => ?_
  have r2 := r1.dr g1.wd
  dsimp only at e
  generalize dr s1 x = y at e r2
  split at e
  · cases e
    obtain ⟨a, vs, rfl, hl, r⟩ := r2.tup g1.wd.sub
    refine ⟨a, vs, rfl, hl, fun p hp => ?_⟩
    have px : Px F1 H1 (F1.up p (.tup vs.reverse)) (upd H1 p (.tup vs.reverse)) := Px.new g1.wd.sub hp
    exact q _ _ _ (x1.trans px.ext) (g1.px px) (.tup (SqT.of Fz.up_same) (r.reverse.mono px.f))
  · cases e
/-! ### text.upper() -/
def upM (f : ME) : ME := fun env st => (f env st).bind fun p => match p.1 with
  | .str x => if x.length ≤ 5592405 then some (.str (Txt.upper x), p.2) else none
  | _ => none
theorem im_upper {to : TE} {f : ME} (h : ImW K to f) : Im K (tM0 (fun x xs H Q => ∃ a, x = .str a ∧ xs = [] ∧ a.length ≤ 5592405 ∧ Q (.str (Txt.upper a)) H) to) (upM f) := fun dk H0 F0 F σ H env st d st' g e Q q => by
  obtain ⟨⟨x, s1⟩, h1, e⟩ := bnd e
  refine h dk H0 F0 F σ H env st x s1 g h1 _ fun v F1 H1 x1 g1 r1 => ?_
  cases x with
  | str y =>
    replace e : (if y.length ≤ 5592405 then some (D.str (Txt.upper y), s1) else none) = some (d, st') := e
    split at e
    · rename_i hz
      cases e
      cases (r1.dr g1.wd).str
      exact ⟨⟨y, rfl⟩, y, rfl, rfl, hz, q _ F1 H1 x1 g1 (.str _)⟩
    · cases e
  | _ => cases e
/-! ### list(e), e a text, a list, a tuple or a dict -/
def rListU (K : Fg) : List V → Hp → VK → Prop := fun xs H Q => rListA K xs H Q ∨ rListS xs H Q
theorem call_listU {X : Cx} (hc : X.calm = true) : CallR X (.type "list") (rListU X.K) := CallR.or (call_listA hc) (call_listS hc)
def listUM (f : ME) : MA := fun env st => (f env st).bind fun p => match dr p.2 p.1 with
  | .str x => if x.cps.size ≤ sizeLine then some ((signs x).map D.str, p.2) else none
  | .lst ds => some (ds, p.2)
  | .tup ds => some (ds, p.2)
  | _ => none
theorem if_listU {ta : TA} {f : ME} (ha : ImAW K ta (aCons f aNil)) : ImF K (tCB (rListU K) ta) (listUM f) := fun dk H0 F0 F σ H env st d st' g e Q q => by
  obtain ⟨⟨x, s1⟩, h1, e⟩ := bnd e
  have h1' : aCons f aNil env st = some ([x], s1) := by
    show (f env st).bind _ = _
    rw [h1]; rfl
  refine ha dk H0 F0 F σ H env st [x] s1 g h1' _ fun vs F1 H1 x1 g1 r1 => ?_
  have fin : ∀ (us : List V) (ds : List D) (p : Addr), H1 p = none → Rps K dk F1 us ds → some (ds, s1) = some (d, st') → Q (.ref p) (upd H1 p (.lst us)) := fun us ds p hp r e => by
    cases e
    have px : Px F1 H1 F1 (upd H1 p (.lst us)) := Px.lay g1.wd.sub hp
    exact q p us F1 _ (x1.trans px.ext) (g1.px px) (x1.back hp) (g1.wd.out hp) upd_same r
  have r2 := r1.dr g1.wd
  obtain ⟨v, rfl, r⟩ := r2.one
  replace e : (match dr s1 x with
    | .str x => if x.cps.size ≤ sizeLine then some ((signs x).map D.str, s1) else none
    | .lst ds => some (ds, s1)
    | .tup ds => some (ds, s1)
    | _ => none) = some (d, st') := e
  generalize dr s1 x = y at e r
  cases y with
  | str z =>
    replace e : (if z.cps.size ≤ sizeLine then some ((signs z).map D.str, s1) else none) = some (d, st') := e
    split at e
    · rename_i hz
      cases r.str
      exact .inr ⟨z, rfl, hz, fun p hp => fin _ _ p hp (Rps.ofStrs _) e⟩
    · cases e
  | lst ds =>
    obtain ⟨p, us, rfl, hl, r⟩ := r.l g1.wd.sub
    exact .inl (.inl ⟨p, us, rfl, .inl (SqL.of hl), fun l hl => fin us ds l hl r e⟩)
  | tup ds =>
    obtain ⟨p, us, rfl, hl, r⟩ := r.tup g1.wd.sub
    exact .inl (.inl ⟨p, us, rfl, .inr hl, fun l hl => fin us ds l hl r e⟩)
  | _ => cases e
end
end MD

set_option Elab.async false
set_option linter.all false
set_option maxRecDepth 100000
set_option maxHeartbeats 1000000
namespace MD
open PySem PySem.Spec PyProof.Rows L2 RZ
variable {ww : WW}
/-! ### data that are told by what they read as -/
mutual
theorem D.py_inj : ∀ (d e : D), d.pl = true → e.pl = true → d.py = e.py → d = e
  | .non, .non, _, _, _ => rfl
  | .bl a, .bl b, _, _, h => by simp only [D.py] at h; cases h; rfl
  | .int a, .int b, _, _, h => by simp only [D.py] at h; cases h; rfl
  | .str a, .str b, _, _, h => by simp only [D.py] at h; cases h; rfl
  | .lst a, .lst b, p, q, h => by
    simp only [D.py] at h
    rw [pyAll_inj a b (by simpa [D.pl] using p) (by simpa [D.pl] using q) (PyData.list.inj h)]
  | .tup a, .tup b, p, q, h => by
    simp only [D.py] at h
    rw [pyAll_inj a b (by simpa [D.pl] using p) (by simpa [D.pl] using q) (PyData.tuple.inj h)]
  | .deck, _, p, _, _ => by simp [D.pl] at p
  | .dic _ _, _, p, _, _ => by simp [D.pl] at p
  | .ref _, _, p, _, _ => by simp [D.pl] at p
  | _, .deck, _, p, _ => by simp [D.pl] at p
  | _, .dic _ _, _, p, _ => by simp [D.pl] at p
  | _, .ref _, _, p, _ => by simp [D.pl] at p
  | .non, .bl _, _, _, h => by simp only [D.py] at h; cases h
  | .non, .int _, _, _, h => by simp only [D.py] at h; cases h
  | .non, .str _, _, _, h => by simp only [D.py] at h; cases h
  | .non, .lst _, _, _, h => by simp only [D.py] at h; cases h
  | .non, .tup _, _, _, h => by simp only [D.py] at h; cases h
  | .bl _, .non, _, _, h => by simp only [D.py] at h; cases h
  | .bl _, .int _, _, _, h => by simp only [D.py] at h; cases h
  | .bl _, .str _, _, _, h => by simp only [D.py] at h; cases h
  | .bl _, .lst _, _, _, h => by simp only [D.py] at h; cases h
  | .bl _, .tup _, _, _, h => by simp only [D.py] at h; cases h
  | .int _, .non, _, _, h => by simp only [D.py] at h; cases h
  | .int _, .bl _, _, _, h => by simp only [D.py] at h; cases h
  | .int _, .str _, _, _, h => by simp only [D.py] at h; cases h
  | .int _, .lst _, _, _, h => by simp only [D.py] at h; cases h
  | .int _, .tup _, _, _, h => by simp only [D.py] at h; cases h
  | .str _, .non, _, _, h => by simp only [D.py] at h; cases h
  | .str _, .bl _, _, _, h => by simp only [D.py] at h; cases h
  | .str _, .int _, _, _, h => by simp only [D.py] at h; cases h
  | .str _, .lst _, _, _, h => by simp only [D.py] at h; cases h
  | .str _, .tup _, _, _, h => by simp only [D.py] at h; cases h
  | .lst _, .non, _, _, h => by simp only [D.py] at h; cases h
  | .lst _, .bl _, _, _, h => by simp only [D.py] at h; cases h
  | .lst _, .int _, _, _, h => by simp only [D.py] at h; cases h
  | .lst _, .str _, _, _, h => by simp only [D.py] at h; cases h
  | .lst _, .tup _, _, _, h => by simp only [D.py] at h; cases h
  | .tup _, .non, _, _, h => by simp only [D.py] at h; cases h
  | .tup _, .bl _, _, _, h => by simp only [D.py] at h; cases h
  | .tup _, .int _, _, _, h => by simp only [D.py] at h; cases h
  | .tup _, .str _, _, _, h => by simp only [D.py] at h; cases h
  | .tup _, .lst _, _, _, h => by simp only [D.py] at h; cases h
theorem pyAll_inj : ∀ (ds es : List D), plAll ds = true → plAll es = true → pyAll ds = pyAll es → ds = es
  | [], [], _, _, _ => rfl
  | [], _ :: _, _, _, h => by simp [pyAll] at h
  | _ :: _, [], _, _, h => by simp [pyAll] at h
  | d :: ds, e :: es, p, q, h => by
    simp only [plAll, Bool.and_eq_true] at p q
    simp only [pyAll] at h
    obtain ⟨h1, h2⟩ := List.cons.inj h
    rw [D.py_inj d e p.1 q.1 h1, pyAll_inj ds es p.2 q.2 h2]
end
theorem pyAll_map : ∀ ds : List D, pyAll ds = ds.map D.py
  | [] => rfl
  | d :: ds => by rw [pyAll, pyAll_map ds]; rfl
theorem plAll_mem : ∀ {ds : List D}, plAll ds = true → ∀ d ∈ ds, d.pl = true
  | d :: ds, h, e, he => by
    rw [plAll, Bool.and_eq_true] at h
    rcases List.mem_cons.mp he with rfl | he
    · exact h.1
    · exact plAll_mem h.2 e he
/-! ### sorted(xs), xs a list of data that are alike -/
def allAl (ds : List D) : Bool := ds.all fun d => ds.all fun e => PySem.W.alike d.py e.py
def isCT : D → Bool
  | .tup (_ :: _) => true
  | _ => false
def isSc : D → Bool
  | .int _ => true
  | .str _ => true
  | .bl _ => true
  | _ => false
def sortG (ds : List D) : Bool := plAll ds && allAl ds && (ds.all isCT || ds.all isSc) && ds.all fun d => decide (d.py.depth ≤ 60)
def srtD (ds : List D) : List D := ds.mergeSort (PySem.W.dataLe false D.py)
def rSortD (K : Fg) : List V → Hp → VK → Prop := fun vs H Q => ∃ (a : Addr) (xs : List V) (ds : List D) (P : V → D → Prop), vs = [V.ref a] ∧ SqL K H a xs ∧ PySem.W.EachIs P xs ds ∧ (∀ v d, P v d → Dp K H v d.py) ∧
  PySem.W.AllAlike (ds.map D.py) ∧ PySem.W.Sortable (ds.map D.py) ∧ (∀ d ∈ ds, d.py.depth ≤ 60) ∧ ∀ ys p, PySem.W.EachIs P ys (srtD ds) → H p = none → Q (.ref p) (upd H p (.lst ys))
theorem each_join {P : V → D → Prop} : ∀ {xs : List V} {us : List Value} {ds : List D}, Vals xs us → PySem.W.EachIs P xs ds → PySem.W.EachIs (fun u d => ∃ v, RelV v u ∧ P v d) us ds
  | _, _, _, .nil, .nil => .nil
  | _, _, _, .cons a r, .cons b q => .cons ⟨_, a, b⟩ (each_join r q)
theorem each_split {P : V → D → Prop} : ∀ {us : List Value} {ds : List D}, PySem.W.EachIs (fun u d => ∃ v, RelV v u ∧ P v d) us ds → ∃ ys, Vals ys us ∧ PySem.W.EachIs P ys ds
  | _, _, .nil => ⟨[], .nil, .nil⟩
  | _, _, .cons ⟨v, h1, h2⟩ r => by
    obtain ⟨ys, h3, h4⟩ := each_split r
    exact ⟨v :: ys, .cons h1 h3, .cons h2 h4⟩
theorem call_sortedD {X : Cx} (hu : X.A.units + 64 < cLine) : CallR X (.builtin "sorted") (rSortD X.K) := by
  intro pins s σ H vs us Q I r h
  obtain ⟨a, xs, ds, P, rfl, hs, he, hp, ha, hk, hd, q⟩ := h
  obtain ⟨its, rv, hl, hz⟩ := I.list hs
  rw [Vals.ref1 r]
  have e1 : PySem.W.EachIs (fun u d => ∃ v, RelV v u ∧ P v d) its ds := each_join rv he
  have hlen1 : xs.length = ds.length := he.length
  refine PySem.W.sorted_data (enc := D.py) (bs := ds) (vs := its) hl.isList e1 (e1.mono fun u d ⟨v, r1, p1⟩ => Dp.reads I _ _ _ (hp v d p1) r1) ha hk (by rw [← hlen1]; exact hz) (fun b hb => by have := hd b hb; omega) fun out ho eo => ?_
  obtain ⟨ys, h1, h2⟩ := each_split eo
  obtain ⟨ep, he'⟩ := PyProof.Rows.sortedAll_at s.heap its (List.toArray out)
  have hlen : ys.length ≤ sizeLine := by
    have : ys.length = (srtD ds).length := h2.length
    rw [this]
    unfold srtD
    rw [List.length_mergeSort, ← hlen1]
    exact hz
  exact ⟨.ref _, upd H (s.heap.objs.size + 1) (.lst ys), I.laid (t' := s.toks) (fun _ _ => PyProof.Rows.sortedAll_old) (Nat.le_succ _) ⟨hlen, out, ep, h1, he'⟩, rfl, q _ _ h2 (I.hok.fresh (Nat.le_succ _))⟩
def sortM (f : ME) : MA := fun env st => (f env st).bind fun p => match dr p.2 p.1 with
  | .lst ds => if sortG ds = true then some (srtD ds, p.2) else none
  | _ => none
section
variable {K : Fg} {dk : Dk} {F F' F0 : Fz} {H H' H0 : Hp} {σ : L2.St} {env : Sg} {st : S}
theorem rps_each : ∀ {vs : List V} {ds : List D}, Rps K dk F vs ds → plAll ds = true → PySem.W.EachIs (fun v d => Rp K dk F v d ∧ d.pl = true) vs ds
  | _, _, .nil, _ => .nil
  | _, _, .cons a r, h => by
    rw [plAll, Bool.and_eq_true] at h
    exact .cons ⟨a, h.1⟩ (rps_each r h.2)
theorem each_rps : ∀ {vs : List V} {ds : List D}, PySem.W.EachIs (fun v d => Rp K dk F v d ∧ d.pl = true) vs ds → Rps K dk F vs ds
  | _, _, .nil => .nil
  | _, _, .cons a r => .cons a.1 (each_rps r)
theorem allAl_iff {ds : List D} (h : allAl ds = true) : PySem.W.AllAlike (ds.map D.py) := by
  intro d hd d' hd'
  obtain ⟨x, hx, rfl⟩ := List.mem_map.mp hd
  obtain ⟨y, hy, rfl⟩ := List.mem_map.mp hd'
  unfold allAl at h
  rw [List.all_eq_true] at h
  have h2 := h x hx
  rw [List.all_eq_true] at h2
  exact h2 y hy
theorem sortable_of {ds : List D} (h : (ds.all isCT || ds.all isSc) = true) : PySem.W.Sortable (ds.map D.py) := by
  rcases Bool.or_eq_true_iff.mp h with h | h
  · refine .inl fun d hd => ?_
    obtain ⟨x, hx, rfl⟩ := List.mem_map.mp hd
    have := List.all_eq_true.mp h x hx
    cases x with
    | tup ts =>
      cases ts with
      | nil => cases this
      | cons t ts => exact ⟨t.py, pyAll ts, by rw [D.py, pyAll]⟩
    | _ => cases this
  · refine .inr fun d hd => ?_
    obtain ⟨x, hx, rfl⟩ := List.mem_map.mp hd
    have := List.all_eq_true.mp h x hx
    cases x with
    | int i => exact ⟨fun z => (by rw [D.py] at z; cases z), fun xs z => (by rw [D.py] at z; cases z)⟩
    | str i => exact ⟨fun z => (by rw [D.py] at z; cases z), fun xs z => (by rw [D.py] at z; cases z)⟩
    | bl i => exact ⟨fun z => (by rw [D.py] at z; cases z), fun xs z => (by rw [D.py] at z; cases z)⟩
    | _ => cases this
theorem if_sorted {ta : TA} {f : ME} (ha : ImAW K ta (aCons f aNil)) : ImF K (tCB (rSortD K) ta) (sortM f) := fun dk H0 F0 F σ H env st d st' g e Q q => by
  obtain ⟨⟨x, s1⟩, h1, e⟩ := bnd e
  have h1' : aCons f aNil env st = some ([x], s1) := by
    show (f env st).bind _ = _
    rw [h1]; rfl
  refine ha dk H0 F0 F σ H env st [x] s1 g h1' _ fun vs F1 H1 x1 g1 r1 => ?_
  obtain ⟨v, rfl, r⟩ := (r1.dr g1.wd).one
  dsimp only at e
  generalize dr s1 x = y at e r
  split at e
  · rename_i ds
    split at e
    · rename_i hG
      cases e
      obtain ⟨p, us, rfl, hp, r2⟩ := r.l g1.wd.sub
      unfold sortG at hG
      simp only [Bool.and_eq_true] at hG
      obtain ⟨⟨⟨g1', g2⟩, g3⟩, g4⟩ := hG
      refine ⟨p, us, ds, fun v d => Rp K dk F1 v d ∧ d.pl = true, rfl, SqL.of hp, rps_each r2 g1', fun v d h => h.1.dp g1.wd.sub h.2, allAl_iff g2, sortable_of g3, fun d hd => by simpa using List.all_eq_true.mp g4 d hd, fun ys l hy hl => ?_⟩
      have px : Px F1 H1 F1 (upd H1 l (.lst ys)) := Px.lay g1.wd.sub hl
      exact q l ys F1 _ (x1.trans px.ext) (g1.px px) (x1.back hl) (g1.wd.out hl) upd_same (each_rps hy)
    · cases e
  · cases e
/-! ### zip of two tuples -/
def zipD (xs ys : List D) : List D := List.zipWith (fun x y => .tup [x, y]) xs ys
theorem zipD_get {xs ys : List D} {i : Nat} {d : D} (h : (zipD xs ys)[i]? = some d) : ∃ x y, xs[i]? = some x ∧ ys[i]? = some y ∧ d = .tup [x, y] := by
  unfold zipD at h
  rw [List.getElem?_zipWith] at h
  cases hx : xs[i]? with
  | none => rw [hx] at h; cases h
  | some x =>
    cases hy : ys[i]? with
    | none => rw [hx, hy] at h; cases h
    | some y => rw [hx, hy] at h; cases h; exact ⟨x, y, rfl, rfl, rfl⟩
theorem stdy_zipT {a b : Addr} {vs us : List V} {ds es : List D} (h : SqT K F a vs) (r : Rps K dk F vs ds) (h' : SqT K F b us) (r' : Rps K dk F us es) : Stdy K dk F (ItzT K a b) (zipD ds es) := fun F1 H1 st le w i => by
  have hq : SqT K H1 a vs := w.sub.sqT (le.sqT h)
  have hq' : SqT K H1 b us := w.sub.sqT (le.sqT h')
  refine ⟨fun d hd => ?_, fun hl => ⟨vs, us, hq, hq', ?_⟩⟩
  · obtain ⟨x, y, h1, h2, rfl⟩ := zipD_get hd
    obtain ⟨v, h3, h4⟩ := r.get h1
    obtain ⟨u, h5, h6⟩ := r'.get h2
    refine ⟨⟨vs, us, v, u, hq, hq', h3, h5⟩, fun z H2 hy => ?_⟩
    obtain ⟨T, v', u', rfl, hT, rfl, e1, e2⟩ := hy
    have e1' := e1 vs hq
    have e2' := e2 us hq'
    rw [h3] at e1'
    rw [h5] at e2'
    cases e1'
    cases e2'
    have px : Px F1 H1 (Fz.up F1 T (.tup [v, u])) (upd H1 T (.tup [v, u])) := Px.new w.sub hT
    exact ⟨_, px, .tup (SqT.of Fz.up_same) (.cons ((h4.mono le).mono px.f) (.cons ((h6.mono le).mono px.f) .nil))⟩
  · rw [r.length, r'.length]
    have : (zipD ds es).length = min ds.length es.length := by unfold zipD; rw [List.length_zipWith]
    omega
def zipI (f f' : ME) : MI := fun env st => (f env st).bind fun p => (f' env p.2).bind fun q => match p.1, q.1 with
  | .tup xs, .tup ys => some (zipD xs ys, q.2)
  | _, _ => none
theorem ii_zip {te te' : TE} {f f' : ME} (h : Im K te f) (h' : Im K te' f') : ImI K (iZipA K (tCons te (tCons te' tNil))) (zipI f f') := fun dk H0 F0 F σ H env st ds st' g e R q => by
  obtain ⟨⟨d, s1⟩, h1, e⟩ := bnd e
  obtain ⟨⟨d', s2⟩, h2, e⟩ := bnd e
  dsimp only at e
  split at e
  · cases e
    refine h dk H0 F0 F σ H env st _ s1 g h1 _ fun v F1 H1 x1 g1 r1 => ?_
    refine h' dk H0 F0 F1 σ H1 env s1 _ _ g1 h2 _ fun u F2 H2 x2 g2 r2 => ?_
    have r1' := r1.mono x2.f
    cases r1' with
    | tup a1 a2 =>
      cases r2 with
      | tup b1 b2 => exact ⟨_, _, _, _, rfl, .inr ⟨g2.wd.sub.sqT a1, g2.wd.sub.sqT b1, q _ F2 H2 (x1.trans x2) g2 (stdy_zipT a1 a2 b1 b2)⟩⟩
  · cases e
/-! ### d.setdefault(k, x), d a dict of the store -/
def sdefM (fo fk fx : ME) : ME := fun env st => (fo env st).bind fun o => (refOf o.1).bind fun n => (dicAt o.2 n).bind fun _ => (fk env o.2).bind fun p => (fx env p.2).bind fun r => (dicAt r.2 n).bind fun z => (keyOf p.1).bind fun k =>
  if z.2.length < sizeLine then (match getK z.1 z.2 k with
    | some d => some (d, r.2)
    | none => some (r.1, r.2.put n (.dic false (putKs z.1 k) (putVs z.1 z.2 k r.1)))) else none
theorem im_sdef {to ty tx : TE} {fo fk fx : ME} (ho : Im K to fo) (hk : ImW K ty fk) (hx : Im K tx fx) : Im K (tDSetd to ty tx) (sdefM fo fk fx) := fun dk H0 F0 F σ H env st d st' g e Q q => by
  obtain ⟨⟨o, s1⟩, h1, e⟩ := bnd e
  obtain ⟨n, h2, e⟩ := bnd e
  obtain ⟨z0, h3, e⟩ := bnd e
  obtain ⟨⟨y, s2⟩, h4, e⟩ := bnd e
  obtain ⟨⟨x, s3⟩, h5, e⟩ := bnd e
  obtain ⟨⟨ks, ds⟩, h6, e⟩ := bnd e
  obtain ⟨k, h7, e⟩ := bnd e
  split at e
  · rename_i hz
    have e9 := e
    refine ho dk H0 F0 F σ H env st o s1 g h1 _ fun v F1 H1 x1 g1 r1 => ?_
    have hxo : o = .ref n := refOf_eq h2
    subst hxo
    obtain ⟨a, rfl, ha⟩ := r1.refn
    obtain ⟨vs0, hv0, _, _⟩ := g1.wd.dicAt ha h3
    refine ⟨a, rfl, .inl ⟨_, .inl hv0⟩, ?_⟩
    refine hk dk H0 F0 F1 σ H1 env s1 y s2 g1 h4 _ fun u F2 H2 x2 g2 r2 => ?_
    refine hx dk H0 F0 F2 σ H2 env s2 x s3 g2 h5 _ fun w F3 H3 x3 g3 r3 => ?_
    have ha3 := (x2.f.trans x3.f).at ha
    obtain ⟨vs, hvs, hl, rv⟩ := g3.wd.dicAt ha3 h6
    have x123 := x1.trans (x2.trans x3)
    obtain ⟨i1, i2⟩ := getK_val ks k rv hl
    refine ⟨ks.zip vs, k, hvs, keyOf_rw r2.w h7, ?_, fun v' hv' => ?_, fun hn => ?_⟩
    · have := rv.length
      rw [List.length_zip, hl, Nat.min_self, this]; exact hz
    · cases hg : getK ks ds k with
      | none => rw [i2 hg] at hv'; cases hv'
      | some d1 =>
        obtain ⟨u1, hu1, ru1⟩ := i1 d1 hg
        rw [hu1] at hv'
        cases hv'
        dsimp only at e9
        rw [hg] at e9
        cases e9
        exact q _ F3 H3 x123 g3 ru1
    · cases hg : getK ks ds k with
      | some d1 =>
        obtain ⟨u1, hu1, ru1⟩ := i1 d1 hg
        rw [hu1] at hn
        cases hn
      | none =>
        dsimp only at e9
        rw [hg] at e9
        cases e9
        have nf : ¬ Fro (HO.dK (ks.zip vs)) := by rintro ⟨_, _, z⟩; cases z
        have nf' : ¬ Fro (HO.dK (putK (ks.zip vs) k w)) := by rintro ⟨_, _, z⟩; cases z
        refine q w F3 _ (x123.put ha3 hvs nf nf') (g3.put ha3 hvs nf ?_) r3
        exact .dic (by rw [upd_same]; exact congrArg (fun z => some (HO.dK z)) (put_zip hl)) (put_len hl) (putVs_rps r3 rv)
  · cases e
/-! ### min of a list of data that are alike -/
def minE (x : D) (xs : List D) : D := xs.foldl (fun a y => if PySem.W.dataLt y.py a.py then y else a) x
theorem minE_py : ∀ (xs : List D) (x : D), (minE x xs).py = PySem.W.minD x.py (pyAll xs)
  | [], x => rfl
  | y :: ys, x => by
    show (minE (if PySem.W.dataLt y.py x.py then y else x) ys).py = _
    rw [minE_py ys]
    unfold PySem.W.minD
    rw [pyAll, List.foldl_cons]
    congr 1
    split <;> rfl
theorem minE_mem : ∀ (xs : List D) (x : D), minE x xs ∈ x :: xs
  | [], x => List.mem_singleton.mpr rfl
  | y :: ys, x => by
    have h := minE_mem ys (if PySem.W.dataLt y.py x.py then y else x)
    show minE (if PySem.W.dataLt y.py x.py then y else x) ys ∈ _
    rcases List.mem_cons.mp h with e | h
    · rw [e]
      split <;> simp
    · exact List.mem_cons_of_mem _ (List.mem_cons_of_mem _ h)
def rMinD (K : Fg) : List V → Hp → VK → Prop := fun vs H Q => ∃ (a : Addr) (xs : List V) (x : PyData) (ds : List PyData), vs = [V.ref a] ∧ SqL K H a xs ∧ DpAll K H xs (x :: ds) ∧ PySem.W.AlikeAll (x :: ds) ∧ PyData.depthAll (x :: ds) ≤ 60 ∧
  ∀ (i : Nat) (v : V), xs[i]? = some v → (x :: ds)[i]? = some (PySem.W.minD x ds) → Q v H
theorem vals_get : ∀ {xs : List V} {us : List Value}, Vals xs us → ∀ {i : Nat} {u : Value}, us[i]? = some u → ∃ v, xs[i]? = some v ∧ RelV v u
  | _, _, .nil, i, u, h => by cases h
  | _, _, .cons a r, 0, u, h => by cases h; exact ⟨_, rfl, a⟩
  | _, _, .cons a r, i + 1, u, h => vals_get r (i := i) h
theorem reads_get {h : Heap} : ∀ {us : List Value} {ds : List PyData} {as : List Addr}, ReadsAll h us ds as → ∀ {i : Nat} {u : Value}, us[i]? = some u → ∃ d bs, ds[i]? = some d ∧ Reads h u d bs
  | _, _, _, .nil, i, u, e => by cases e
  | _, _, _, .cons a r, 0, u, e => by cases e; exact ⟨_, _, rfl, a⟩
  | _, _, _, .cons a r, i + 1, u, e => reads_get r (i := i) e
theorem minD_mem : ∀ (ds : List PyData) (x : PyData), PySem.W.minD x ds ∈ x :: ds
  | [], x => List.mem_singleton.mpr rfl
  | y :: ys, x => by
    have h := minD_mem ys (if PySem.W.dataLt y x then y else x)
    show PySem.W.minD (if PySem.W.dataLt y x then y else x) ys ∈ _
    rcases List.mem_cons.mp h with e | h
    · rw [e]
      split <;> simp
    · exact List.mem_cons_of_mem _ (List.mem_cons_of_mem _ h)
theorem call_minD {X : Cx} (hc : X.calm = true) (hu : X.A.units + 64 < cLine) : CallR X (.builtin "min") (rMinD X.K) := by
  intro pins s σ H vs us Q I r h
  obtain ⟨a, xs, x, ds, rfl, hs, hd, ha, hdp, q⟩ := h
  obtain ⟨its, rv, hl, hz⟩ := I.list hs
  rw [Vals.ref1 r]
  obtain ⟨as, hr⟩ := Dp.readsAll I _ _ its hd rv
  refine PySem.W.min_list_data (I.ok.hd hc) hl.isList (by simpa using hr) ha (by omega) fun i v h' tk bs hv hrd hk => ?_
  have hv' : its[i]? = some v := by simpa using hv
  obtain ⟨y, hy, ry⟩ := vals_get rv hv'
  obtain ⟨d, cs, hd1, rd1⟩ := reads_get hr hv'
  have hdm : d ∈ x :: ds := List.mem_of_getElem? hd1
  have e : d = PySem.W.minD x ds := PySem.W.alike_unique _ _ _ _ _ (ha.1 _ hdm _ (minD_mem ds x)) (PySem.W.reads_keeps hk rd1) hrd
  exact ⟨y, H, I.kept hk, ry, q i y hy (by rw [hd1, e])⟩
def minG (ds : List D) : Bool := plAll ds && allAl ds && ds.all (fun d => !nonD d) && decide (PyData.depthAll (pyAll ds) ≤ 60)
def minDM : List D → Option D
  | [.lst (x :: ds)] => if minG (x :: ds) = true then some (minE x ds) else none
  | _ => none
theorem rc_minD : RC K (rMinD K) minDM := by
  intro dk F H st vs ds z w rx hz Q q
  unfold minDM at hz
  split at hz
  · rename_i x es
    split at hz
    · rename_i hG
      cases hz
      unfold minG at hG
      simp only [Bool.and_eq_true, decide_eq_true_eq] at hG
      obtain ⟨⟨⟨g1, g2⟩, g3⟩, g4⟩ := hG
      obtain ⟨v, rfl, r⟩ := rx.one
      obtain ⟨p, us, rfl, hp, r2⟩ := r.l w.sub
      have hal := allAl_iff g2
      refine ⟨p, us, x.py, pyAll es, rfl, SqL.of hp, r2.dp w.sub g1, ⟨fun a ha b hb => hal a (by rw [← pyAll_map]; exact ha) b (by rw [← pyAll_map]; exact hb), fun a ha => ?_⟩, g4, fun i v hv hm => ?_⟩
      · have ha' : a ∈ (x :: es).map D.py := by rw [← pyAll_map]; exact ha
        obtain ⟨d, hd, rfl⟩ := List.mem_map.mp ha'
        have h1 := List.all_eq_true.mp g3 d hd
        have h2 := plAll_mem g1 d hd
        intro z
        cases d <;> simp [D.py, nonD, D.pl] at h1 h2 z
      · obtain ⟨d, hd, rd⟩ := r2.getV hv
        have hm' : ((x :: es).map D.py)[i]? = some (PySem.W.minD x.py (pyAll es)) := by rw [← pyAll_map]; exact hm
        rw [List.getElem?_map, hd] at hm'
        have e1 : d.py = (minE x es).py := by rw [minE_py]; exact Option.some.inj hm'
        have e2 := D.py_inj d _ (plAll_mem g1 d (List.mem_of_getElem? hd)) (plAll_mem g1 _ (minE_mem es x)) e1
        rw [← e2] at q
        exact q _ F H (Px.refl w.sub) rd
    · cases hz
  · cases hz
end
end MD

set_option Elab.async false
set_option linter.all false
set_option maxRecDepth 100000
set_option maxHeartbeats 1000000
namespace MD
open PySem PySem.Spec PyProof.Rows L2
variable {ww : WW}
/-! ### is not True, of a bool -/
theorem op_isNotB {X : Cx} : OpR X (compareOp .IsNot) (fun x y H Q => ∃ a b, x = .bl a ∧ y = .bl b ∧ Q (.bl (!decide (a = b))) H) := by
  intro pins s σ H x y v u Q I rx ry h
  obtain ⟨a, b, rfl, rfl, q⟩ := h
  cases (show v = Value.bool a from rx)
  cases (show u = Value.bool b from ry)
  by_cases e : a = b
  · subst e
    exact wpAny_isNot_self rfl ⟨.bl false, H, I, rfl, by simpa using q⟩
  · exact wpAny_isNot_other rfl (fun z => e (Value.bool.inj z)) ⟨.bl true, H, I, rfl, by simpa [e] using q⟩
section
variable {K : Fg} {dk : Dk} {F F' F0 : Fz} {H H' H0 : Hp}
def isNotB : D → D → Option D
  | .bl a, .bl b => some (.bl (!decide (a = b)))
  | _, _ => none
theorem ro_isNotB : RO K (fun x y H Q => ∃ a b, x = .bl a ∧ y = .bl b ∧ Q (.bl (!decide (a = b))) H) isNotB := by
  intro dk F H st x y d e z w rx ry hz Q q
  unfold isNotB at hz
  split at hz
  · cases hz
    exact ⟨_, _, rx.bl, ry.bl, q _ F H (Px.refl w.sub) (.bl _)⟩
  · cases hz
end
end MD

set_option Elab.async false
set_option linter.all false
set_option maxRecDepth 100000
set_option maxHeartbeats 4000000
namespace MD
open PySem PySem.Spec PyProof.Rows L2 RZ
variable {ww : WW}
/-! ### sets of keys (ints, texts) whose members can be walked: set(list), sorted(set(list)) -/
def kPy : Key → PyData
  | .inl i => .int i
  | .inr x => .str x
def keyV : Value → Key
  | .int k _ => .inl k
  | .str x _ => .inr x
  | _ => .inl 0
theorem keyV_rel {k : Key} {v : Value} (r : RelV (kV k) v) : keyV v = k := by
  cases k with
  | inl i => obtain ⟨t, rfl⟩ := r; rfl
  | inr x => obtain ⟨t, rfl⟩ := r; rfl
def inKs (ks : List Key) (k : Key) : Bool := ks.any fun j => decide (j = k)
theorem inKs_iff {ks : List Key} {k : Key} : inKs ks k = true ↔ k ∈ ks := by
  unfold inKs
  rw [List.any_eq_true]
  constructor
  · rintro ⟨j, h1, h2⟩
    rw [← of_decide_eq_true h2]; exact h1
  · exact fun h => ⟨k, h, decide_eq_true rfl⟩
def addK (ks : List Key) (k : Key) : List Key := if inKs ks k = true then ks else k :: ks
def nubK (ks : List Key) : List Key := ks.foldl addK []
theorem addK_mem {ks : List Key} {k j : Key} : j ∈ addK ks k ↔ j ∈ ks ∨ j = k := by
  unfold addK
  split
  · rename_i h
    refine ⟨.inl, fun z => z.elim id fun e => by rw [e]; exact inKs_iff.mp h⟩
  · rw [List.mem_cons]; exact Or.comm
theorem addK_nd {ks : List Key} {k : Key} (h : ks.Nodup) : (addK ks k).Nodup := by
  unfold addK
  split
  · exact h
  · rename_i z
    exact List.nodup_cons.mpr ⟨fun q => z (inKs_iff.mpr q), h⟩
theorem foldK_mem : ∀ (l acc : List Key) (j : Key), j ∈ l.foldl addK acc ↔ j ∈ acc ∨ j ∈ l
  | [], acc, j => by simp
  | k :: l, acc, j => by
    rw [List.foldl_cons, foldK_mem l, addK_mem, List.mem_cons]
    exact or_assoc
theorem foldK_nd : ∀ (l acc : List Key), acc.Nodup → (l.foldl addK acc).Nodup
  | [], _, h => h
  | k :: l, acc, h => foldK_nd l _ (addK_nd h)
theorem nubK_mem {l : List Key} {j : Key} : j ∈ nubK l ↔ j ∈ l := by
  unfold nubK; rw [foldK_mem]; simp
theorem nubK_nd (l : List Key) : (nubK l).Nodup := foldK_nd l [] List.nodup_nil
theorem addK_len (ks : List Key) (k : Key) : (addK ks k).length ≤ ks.length + 1 := by
  unfold addK; split <;> simp
theorem foldK_len : ∀ (l acc : List Key), (l.foldl addK acc).length ≤ acc.length + l.length
  | [], acc => by simp
  | k :: l, acc => by
    have := foldK_len l (addK acc k)
    have := addK_len acc k
    rw [List.foldl_cons, List.length_cons]; omega
theorem nubK_len (l : List Key) : (nubK l).length ≤ l.length := by
  have := foldK_len l []
  unfold nubK; simpa using this
/-! ### the set at an address, with its members -/
def GoodX (P : Program) (w : World) (e : Int × Value) : Prop := RelV (kV (keyV e.2)) e.2 ∧ e.1 = (mixKind P w).hash (keyV e.2)
def mem2 (es : List (Int × Value)) : List Key := es.map fun e => keyV e.2
def SetX (P : Program) (w : World) (h : Heap) (a : Addr) (ks : List Key) : Prop :=
  ∃ o es ep t, h.get? a = some o ∧ o.ExactSet ∧ o.data = .set es ep t ∧ (∀ e ∈ es.toList, GoodX P w e) ∧ (mem2 es.toList).Perm ks ∧ ks.Nodup ∧ es.size < scanBound ∧
    t.fits es.size = true ∧ Ris t.place.toList ∧ (w.params.followText "set-order" = true ∨ t.led = true)
section
variable {P : Program} {w : World} {h h' : Heap} {a : Addr} {ks : List Key}
theorem SetX.at (R : SetX P w h a ks) (k : ∀ o, h.get? a = some o → h'.get? a = some o) : SetX P w h' a ks := by
  obtain ⟨o, es, ep, t, ho, r⟩ := R
  exact ⟨o, es, ep, t, k o ho, r⟩
theorem gdX_is {e : Int × Value} (g : GoodX P w e) (k : Key) : (mixKind P w).is k e.2 = true ↔ keyV e.2 = k :=
  ⟨fun h => (mixKind P w).inj e.2 _ _ (kV_is g.1) h, fun h => by rw [← h]; exact kV_is g.1⟩
theorem gdX_elems {l : List (Int × Value)} (g : ∀ e ∈ l, GoodX P w e) : ElemsOf (mixKind P w) l := fun e he =>
  ⟨⟨_, kV_is (g e he).1, (g e he).2⟩, key_scan (g e he).1⟩
theorem gdX_mem {l : List (Int × Value)} (g : ∀ e ∈ l, GoodX P w e) (k : Key) : k ∈ mem2 l ↔ ∃ e ∈ l, (mixKind P w).is k e.2 = true := by
  unfold mem2
  rw [List.mem_map]
  exact ⟨fun ⟨e, he, q⟩ => ⟨e, he, (gdX_is (g e he) k).2 q⟩, fun ⟨e, he, q⟩ => ⟨e, he, (gdX_is (g e he) k).1 q⟩⟩
end
section
variable {P : Program} {w : World} {A : Around} {E : Value → Shared → Prop} {s : Shared} {a : Addr} {ks : List Key}
theorem setX_tail {g : Bool → Sem Unit} (hg : ∀ (b : Bool) (s₁ : Shared) (Q' : Unit → Shared → Prop), Q' () s₁ → wpAny (model P w) A (g b) Q' E s₁)
    {o : Obj} {es : Array (Int × Value)} {ep : Nat} {t : SetTable} (ho : s.heap.get? a = some o) (hex : o.ExactSet) (hd : o.data = .set es ep t)
    {es1 : Array (Int × Value)} {t2 : SetTable} {ks' : List Key} (g1 : ∀ e ∈ es1.toList, GoodX P w e) (p1 : (mem2 es1.toList).Perm ks') (nd : ks'.Nodup)
    (hb1 : es1.size < scanBound) (hf2 : t2.fits es1.size = true) (hr : Ris t2.place.toList) (hl : w.params.followText "set-order" = true ∨ t2.led = true) {wasDummy : Bool} {R : Option Bool → Shared → Prop}
    (hR : ∀ h', Heap.SameBut a s.heap h' → SetX P w h' a ks' → R (some true) { s with heap := h' }) :
    wpAny (model P w) A (do
        storeSet a es1 t2
        if (!wasDummy && t2.tooFull) = true then do
            g (relayAll t2 es1 (SetTable.grown es1.size)).2.2
            storeSet a (relayAll t2 es1 (SetTable.grown es1.size)).1 (relayAll t2 es1 (SetTable.grown es1.size)).2.1
            pure (some true)
          else pure (some true)) R E s := by
  refine wpAny_bind (wpAny_storeSet_of ho hd ?_ (fits_of_scanBound hb1))
  have ho1 := store_at (es' := es1) (t' := t2) ho hd
  have sb1 := Heap.SameBut.update s.heap a (Obj.putSet es1 t2)
  split
  · have pm := relayAll_perm t2 es1 (SetTable.grown es1.size)
    have hf3 := relayAll_fits t2 es1 (SetTable.grown es1.size)
    have hr3 := relayAll_ris t2 es1 (SetTable.grown es1.size)
    have hl3 := relayAll_led t2 es1 (SetTable.grown es1.size)
    generalize relayAll t2 es1 (SetTable.grown es1.size) = Z at pm hf3 hr3 hl3 ⊢
    obtain ⟨es2, t3, gave⟩ := Z
    dsimp only at pm hf3 hr3 hl3 ⊢
    have hsz : es2.size = es1.size := by rw [← Array.length_toList, pm.length_eq, Array.length_toList]
    refine wpAny_bind (hg _ _ _ ?_)
    refine wpAny_bind (wpAny_storeSet_of ho1 rfl ?_ (fits_of_scanBound (by rw [hsz]; exact hb1)))
    have ho2 := store_at (es' := es2) (t' := t3) ho1 rfl
    refine wpAny_pure (hR _ (sb1.trans (Heap.SameBut.update _ a _)) ?_)
    exact ⟨_, es2, _, t3, ho2, hex, rfl, fun e he => g1 e (pm.mem_iff.mp he), (pm.map _).trans p1, nd, by rw [hsz]; exact hb1, by rw [hsz] at hf3 ⊢; exact hf3, hr3, hl.imp id fun z => by rw [hl3]; exact z⟩
  · exact wpAny_pure (hR _ sb1 ⟨_, es1, _, t2, ho1, hex, rfl, g1, p1, nd, hb1, hf2, hr, hl⟩)
theorem setX_add {k : Key} {v : Value} {Q : Bool → Shared → Prop} (R : SetX P w s.heap a ks) (rv : RelV (kV k) v) (room : ks.length + 1 < scanBound)
    (hQ : ∀ b h', Heap.SameBut a s.heap h' → SetX P w h' a (addK ks k) → Q b { s with heap := h' }) :
    wpAny (model P w) A (setAddHashed a v ((mixKind P w).hash k)) Q E s := by
  obtain ⟨o, es, ep, t, ho, hex, hd, g, pm0, nd, hb, hf, hr, hl⟩ := R
  have hkey : (mixKind P w).is k v = true := kV_is rv
  have hsc : v.scannable = true := key_scan rv
  have hel : ElemsOf (mixKind P w) es.toList := gdX_elems g
  unfold setAddHashed setAddHashedIn
  refine wpAny_holding (wpAny_bind (wpAny_setState_of ho hd hf ?_))
  dsimp only
  rw [byScan_of hsc hb hel]
  simp only [↓reduceIte]
  unfold setAddByScan
  refine wpAny_bind ?_
  refine wpAny_bind (wpAny_rule ?_)
  refine wpAny_bind (wpAny_setScan_of hkey ho hd hf hel ?_)
  cases hfi : List.findIdx? (fun e => (mixKind P w).is k e.2) es.toList with
  | some j =>
    dsimp only
    obtain ⟨hj, pj, _⟩ := List.findIdx?_eq_some_iff_getElem.mp hfi
    have hk : k ∈ ks := pm0.mem_iff.mp ((gdX_mem g k).2 ⟨es.toList[j], List.getElem_mem hj, pj⟩)
    have e : addK ks k = ks := if_pos (inKs_iff.mpr hk)
    rw [e] at hQ
    exact wpAny_pure (wpAny_pure (hQ _ s.heap (Heap.SameBut.refl a s.heap) ⟨o, es, ep, t, ho, hex, hd, g, pm0, nd, hb, hf, hr, hl⟩))
  | none =>
    dsimp only
    have hnk : k ∉ ks := fun z => by
      obtain ⟨e, he, q⟩ := (gdX_mem g k).1 (pm0.mem_iff.mpr z)
      have c := List.findIdx?_eq_none_iff.mp hfi e he
      rw [q] at c
      cases c
    have ea : addK ks k = k :: ks := if_neg fun z => hnk (inKs_iff.mp z)
    rw [ea] at hQ
    have hgw : ∀ (b : Bool) {s₁ : Shared} {Q' : Unit → Shared → Prop}, Q' () s₁ → wpAny (model P w) A (match b with | true => rule "set.scan.the-table-gave-way" | false => pure ()) Q' E s₁ :=
      fun b s₁ Q' q => by cases b <;> first | exact wpAny_pure q | exact wpAny_rule q
    have pm := layNew_perm t es ((mixKind P w).hash k) v
    have hf1 := layNew_fits t es ((mixKind P w).hash k) v
    have hr1 := layNew_ris t es ((mixKind P w).hash k) v hr
    have hl1 := layNew_led t es ((mixKind P w).hash k) v
    generalize layNew t es ((mixKind P w).hash k) v = Z at pm hf1 hr1 hl1 ⊢
    obtain ⟨es1, t1, wasDummy, gave⟩ := Z
    dsimp only at pm hf1 hr1 hl1 ⊢
    rw [Array.toList_push] at pm
    have pc : es1.toList.Perm (((mixKind P w).hash k, v) :: es.toList) := pm.trans (List.perm_append_singleton _ _)
    have pk : (mem2 es1.toList).Perm (k :: ks) := by
      have q := pc.map fun e : Int × Value => keyV e.2
      rw [List.map_cons] at q
      refine q.trans ?_
      show (keyV v :: mem2 es.toList).Perm (k :: ks)
      rw [keyV_rel rv]
      exact pm0.cons k
    have g1 : ∀ e ∈ es1.toList, GoodX P w e := fun e he => by
      rcases List.mem_cons.mp (pc.mem_iff.mp he) with z | z
      · rw [z]
        exact ⟨by show RelV (kV (keyV v)) v; rw [keyV_rel rv]; exact rv, by show (mixKind P w).hash k = (mixKind P w).hash (keyV v); rw [keyV_rel rv]⟩
      · exact g e z
    have nd1 : (k :: ks).Nodup := List.nodup_cons.mpr ⟨hnk, nd⟩
    have hsz : es1.size = ks.length + 1 := by
      have q := pk.length_eq
      unfold mem2 at q
      rw [List.length_map, Array.length_toList, List.length_cons] at q
      exact q
    have hb1 : es1.size < scanBound := by rw [hsz]; exact room
    have hled : w.params.followText "set-order" = true ∨ t1.led = true := hl.imp id fun z => by rw [hl1]; exact z
    refine wpAny_bind (hgw _ ?_)
    split
    · refine wpAny_bind ?_
      rw [hashByValue_scannable 8 hsc]
      refine wpAny_pure ?_
      refine setX_tail ?_ ho hex hd g1 pk nd1 hb1 ?_ ?_ ?_ ?_
      · intro b s₁ Q' q; cases b <;> first | exact wpAny_pure q | exact wpAny_rule q
      · first | (split <;> first | exact hf1 | exact SetTable.fits_plain_off hf1) | exact hf1
      · first | (split <;> exact hr1) | exact hr1
      · first | (split <;> exact hled) | exact hled
      · intro h' sb r; dsimp only; exact wpAny_pure (hQ _ h' sb r)
    · refine wpAny_bind (wpAny_pure ?_)
      simp only [↓reduceIte]
      refine setX_tail ?_ ho hex hd g1 pk nd1 hb1 hf1 hr1 hled ?_
      · intro b s₁ Q' q; cases b <;> first | exact wpAny_pure q | exact wpAny_rule q
      · intro h' sb r; dsimp only; exact wpAny_pure (hQ _ h' sb r)
end
end MD

set_option Elab.async false
set_option linter.all false
set_option maxRecDepth 100000
set_option maxHeartbeats 4000000
namespace MD
open PySem PySem.Spec PyProof.Rows L2 RZ
variable {ww : WW}
theorem take_addK {l : List Key} {i : Nat} {k : Key} (h : l[i]? = some k) : nubK (l.take (i + 1)) = addK (nubK (l.take i)) k := by
  unfold nubK
  rw [List.take_add_one, h]
  show ((l.take i) ++ [k]).foldl addK [] = _
  rw [List.foldl_append]; rfl
section
variable {P : Program} {w : World} {A : Around} {E : Value → Shared → Prop} {s : Shared}
theorem loopX {I : Addr} {fp wr : List Addr} {G : Array GenState → Array GenState → Prop} {n : Nat} {Pv : Nat → Value → Prop} {St : Nat → Shared → Prop} {R : Result → Shared → Prop}
    (W : WalksS P w A.in1 I fp wr G n Pv St) (S : Addr) (hSf : S ∉ fp) (ks : List Key) (hn : n = ks.length) (hb : ks.length + 1 < scanBound) (hval : ∀ i v, Pv i v → ∃ k, ks[i]? = some k ∧ RelV (kV k) v) :
    ∀ (k i : Nat) (s : Shared), n - i = k → i ≤ n → St i s → SetX P w s.heap S (nubK (ks.take i)) →
      (∀ s', Moved (S :: wr) G s s' → SetX P w s'.heap S (nubK ks) → R (.ok (.ret .none)) s') →
      codeAny (model P w) A (.builtin "set.update.loop" ⟨[.ref S, .ref I], []⟩) R s := by
  have hSw : S ∉ wr := fun h => hSf (W.sub _ h)
  have hsub : ∀ b ∈ wr, b ∈ S :: wr := fun b hb => List.mem_cons_of_mem _ hb
  intro k
  induction k with
  | zero =>
    intro i s hk' hi hst hS hR
    have hin : i = n := by omega
    subst hin
    refine codeAny_builtin F.entry_set_update_loop ?_
    rw [Around.under_plainId F.plain_set_update_loop _]
    show wpAny _ A.in1 (pyNext (.ref I) >>= _) _ _ s
    refine wpAny_bind (W.done s _ _ hst fun s' hm => ?_)
    show wpAny _ A.in1 (ret Value.none) _ _ s'
    have e : ks.take i = ks := List.take_of_length_le (by omega)
    rw [e] at hS
    exact wpAny_pure (hR s' (hm.mono hsub) (hS.at fun o e => hm.heap S o hSw e))
  | succ k ih =>
    intro i s hk' hi hst hS hR
    have hlt : i < n := by omega
    refine codeAny_builtin F.entry_set_update_loop ?_
    rw [Around.under_plainId F.plain_set_update_loop _]
    show wpAny _ A.in1 (pyNext (.ref I) >>= _) _ _ s
    refine wpAny_bind (W.item i s _ _ hlt hst fun v s' hP hst' hm => ?_)
    obtain ⟨z, hz, rz⟩ := hval i v hP
    have hS' : SetX P w s'.heap S (nubK (ks.take i)) := hS.at fun o e => hm.heap S o hSw e
    show wpAny _ A.in1 (holding [v] (setAdd S v) >>= _) _ _ s'
    refine wpAny_bind (wpAny_holding ?_)
    unfold setAdd
    refine wpAny_holding ?_
    refine wpAny_bind ((mixKind P w).pyHash (k := z) (kV_is rz) ?_)
    have hl1 := nubK_len (ks.take i)
    rw [List.length_take] at hl1
    refine setX_add (s := { s' with toks := s'.toks + 1 }) hS' rz (by omega) fun b h' hsb hS2 => ?_
    have hS3 : SetX P w h' S (nubK (ks.take (i + 1))) := by rw [take_addK hz]; exact hS2
    refine wpAny_pure ⟨plainId_quiet F.plain_set_update_loop _, ih (i + 1) _ (by omega) hlt (W.frame _ s' _ _ hst' (Nat.le_succ _) fun b hb o e => ?_) hS3 fun s'' hm'' hS'' => ?_⟩
    · rw [hsb.2 b (fun h : b = S => hSf (by rw [← h]; exact hb))]; exact e
    · refine hR s'' (Moved.trans W.gtrans ((hm.mono hsub).then_heap (Nat.le_succ _) fun b o hb e => ?_) hm'') hS''
      rw [hsb.2 b (fun h : b = S => hb (by rw [h]; exact List.mem_cons_self))]; exact e
theorem vals_at : ∀ {ks : List Key} {us : List Value}, Vals (ks.map kV) us → ∀ (i : Nat) (v : Value), us[i]? = some v → ∃ k, ks[i]? = some k ∧ RelV (kV k) v
  | [], _, .nil, i, v, h => by simp at h
  | k :: ks, _, .cons a r, 0, v, h => by cases h; exact ⟨k, rfl, a⟩
  | k :: ks, _, .cons a r, i + 1, v, h => vals_at r i v h
/-- an empty set, as laid by set() -/
def nObj (w : World) : Obj := { cls := .type "set", dict := none, data := .set #[] 0 (.fresh 0 0 (!w.params.followText "set-order")) }
theorem setX_nil {h : Heap} {a : Addr} (ho : h.get? a = some (nObj w)) : SetX P w h a [] :=
  ⟨_, #[], 0, _, ho, ⟨rfl, rfl, rfl⟩, rfl, (fun e he => by simp at he), (by simp [mem2]), List.nodup_nil, (by decide), (by rfl), List.Pairwise.nil, by
    show _ ∨ (!w.params.followText "set-order") = true
    cases w.params.followText "set-order"
    · exact .inr rfl
    · exact .inl rfl⟩
set_option maxHeartbeats 8000000 in
theorem call_setX {l : Addr} {its : List Value} {ks : List Key} {Q : Value → Shared → Prop} (hh : A.handled = none) (hl : s.heap.IsList l its.toArray) (hit : Vals (ks.map kV) its) (hb : ks.length + 1 < scanBound)
    (h : ∀ (h' : Heap) (tk : Nat), SetX P w h' s.heap.objs.size (nubK ks) → (∀ b o, s.heap.get? b = some o → h'.get? b = some o) → Q (.ref s.heap.objs.size) { s with heap := h', toks := tk }) :
    wpAny (model P w) A (call (.type "set") [.ref l]) Q E s := by
  have hisz : its.toArray.size = ks.length := by
    have q := hit.length
    rw [List.length_map] at q
    rw [List.size_toArray, q]
  obtain ⟨c, tl, hmro⟩ := PySem.F.called_set.mro
  have hmade := PySem.F.called_set.made
  have hsub := PySem.F.called_set.sub
  refine wpAny_call (codeAny_of_tree ?_)
  show wpAny _ _ (callAny (.type "set") _) _ _ _
  refine wpAny_pure ⟨Code.quiet_builtin _ (by decide +kernel), codeAny_builtin PySem.F.entry_type_call ?_⟩
  rw [Around.under_plain (weight_type_call_type "set" [.ref l] []) rfl]
  have h1 := PySem.F.called_set.notType
  have h2 := PySem.F.called_set.canCreate
  have hct := PySem.F.typeCall_set_1 (.ref l)
  repeat (any_goals (first | assumption | wp_step))
  refine codeAny_mono (code_set_led1 (.ref l) (E := E) (Q₁ := fun obj s₁ => obj = .ref s.heap.objs.size ∧ s₁ = { s with heap := s.heap.push (nObj w) }) ⟨rfl, rfl⟩) fun r s₁ hr => ?_
  cases r with
  | error e => exact hr
  | ok fl =>
    cases fl with
    | ret obj =>
      obtain ⟨rfl, rfl⟩ := hr
      have hS : (s.heap.push (nObj w)).get? s.heap.objs.size = some (nObj w) := Heap.get?_push_size _ rfl
      have hT : Shared.TypeIs { s with heap := s.heap.push (nObj w) } (.ref s.heap.objs.size) "set" := ⟨_, hS, rfl⟩
      have hli := PySem.F.called_set.init.lookup
      have hbi := PySem.F.called_set.init.bind (.ref s.heap.objs.size)
      repeat (any_goals (first | assumption | wp_step))
      refine codeAny_mono (codeAny_call_builtin (R := wants (fun r s₂ => r = .none ∧ ∃ h' tk, s₂ = { s with heap := h', toks := tk } ∧ SetX P w h' s.heap.objs.size (nubK ks) ∧
          (∀ b o, s.heap.get? b = some o → h'.get? b = some o)) E) PySem.F.called_set.init.plain PySem.F.entry_set_init (check_set_init_1 hT ?_)) fun r₂ s₂ hr₂ => ?_
      · obtain ⟨ol, hol, hcl, nl, hdl⟩ := hl
        obtain ⟨ocls, odict, odata, oslots⟩ := ol
        simp only at hcl hdl
        subst hcl; subst hdl
        have hol' : (s.heap.push (nObj w)).get? l = some { cls := .type "list", dict := odict, data := .seq its.toArray nl, slots := oslots } := Heap.get?_push_of_some _ hol
        have hsls := PySem.F.sub_list_set
        have hslf := PySem.F.sub_list_frozenset
        have hne : (Value.type "list" == Value.type "dict") = false := by decide
        have hl1 : (s.heap.push (nObj w)).IsList l its.toArray := ⟨_, hol', rfl, nl, rfl⟩
        unfold Builtin.«set.__init__» noKeywords Builtin.Frozenset.updateFrom
        generalize hPI : pyIter = PI
        wp_walk
        subst hPI
        refine wpAny_pyIter_list hl1 ?_
        refine wpAny_bind (wpAny_runValue ?_)
        have hlS : l < s.heap.objs.size := Heap.lt_size hol
        have hh3 : A.in1.in1.in1.handled = none := by simp [hh]
        have hneI : l ≠ (s.heap.push (nObj w)).objs.size := by
          rw [Heap.size_push]; exact Nat.ne_of_lt (Nat.lt_succ_of_lt hlS)
        have hSf : s.heap.objs.size ∉ [(s.heap.push (nObj w)).objs.size, l] := by
          rw [Heap.size_push]; simp only [List.mem_cons, List.mem_singleton, List.not_mem_nil, or_false, not_or]
          exact ⟨Nat.ne_of_lt (Nat.lt_succ_self _), Nat.ne_of_gt hlS⟩
        have hval : ∀ (i : Nat) (v : Value), its.toArray[i]? = some v → ∃ k, ks[i]? = some k ∧ RelV (kV k) v := fun i v hv => vals_at hit i v (by simpa using hv)
        refine loopX ((Walks.list hh3 _ l hneI its.toArray).toS) s.heap.objs.size
          hSf ks hisz hb hval (its.toArray.size - 0) 0 _ (by omega) (Nat.zero_le _)
          ⟨⟨_, Heap.get?_push_size _ rfl, rfl, rfl⟩, (hl1.push _)⟩ ?hS0 ?hR
        case hS0 => exact setX_nil (Heap.get?_push_of_some _ hS)
        case hR =>
          intro s' hm hS'
          obtain ⟨h', g2, d', tk', os'⟩ := s'
          have eg : g2 = s.gens := hm.gens
          have ed : d' = s.drawn := hm.drawn
          have eo : os' = s.os := hm.os
          subst eg; subst ed; subst eo
          show wpAny _ _ _ _ _ _
          refine wpAny_pure ?_
          show wpAny _ _ (ret Value.none) _ _ _
          refine wpAny_pure ⟨rfl, h', tk', rfl, hS', fun b o e => ?_⟩
          have hb0 : b < s.heap.objs.size := Heap.lt_size e
          have hb1 : b ≠ s.heap.objs.size := Nat.ne_of_lt hb0
          have hb2 : b ≠ (s.heap.push (nObj w)).objs.size := by
            rw [Heap.size_push]; exact Nat.ne_of_lt (Nat.lt_succ_of_lt hb0)
          exact hm.heap b o (by simp only [List.mem_cons, List.mem_singleton, List.not_mem_nil, or_false, not_or]; exact ⟨hb1, hb2⟩) (Heap.get?_push_of_some _ (Heap.get?_push_of_some _ e))
      · cases r₂ with
        | error e => exact hr₂
        | ok fl₂ =>
          cases fl₂ with
          | ret r =>
            obtain ⟨rfl, h', tk, rfl, hS', hk'⟩ := hr₂
            repeat (any_goals (first | assumption | wp_step))
            exact h _ _ hS' hk'
          | _ => exact hr₂.elim
    | _ => exact hr.elim
end
end MD

set_option Elab.async false
set_option linter.all false
set_option maxRecDepth 100000
set_option maxHeartbeats 4000000
namespace MD
open PySem PySem.Spec PyProof.Rows L2 RZ
variable {ww : WW}
def isI : Key → Bool
  | .inl _ => true
  | .inr _ => false
def sameK (ks : List Key) : Bool := ks.all isI || ks.all fun k => !isI k
def srtK (ks : List Key) : List Key := (nubK ks).mergeSort (PySem.W.dataLe false kPy)
theorem sameK_mem {ks l : List Key} (h : sameK ks = true) (m : ∀ k ∈ l, k ∈ ks) : sameK l = true := by
  unfold sameK at h ⊢
  rcases Bool.or_eq_true_iff.mp h with h | h
  · exact Bool.or_eq_true_iff.mpr (.inl (List.all_eq_true.mpr fun k hk => List.all_eq_true.mp h k (m k hk)))
  · exact Bool.or_eq_true_iff.mpr (.inr (List.all_eq_true.mpr fun k hk => List.all_eq_true.mp h k (m k hk)))
theorem sameK_two {ks : List Key} (h : sameK ks = true) {a b : Key} (ha : a ∈ ks) (hb : b ∈ ks) : isI a = isI b := by
  unfold sameK at h
  rcases Bool.or_eq_true_iff.mp h with h | h
  · rw [List.all_eq_true.mp h a ha, List.all_eq_true.mp h b hb]
  · have h1 := List.all_eq_true.mp h a ha
    have h2 := List.all_eq_true.mp h b hb
    simp only [Bool.not_eq_true'] at h1 h2
    rw [h1, h2]
theorem leK_total : PySem.W.TotalLe (PySem.W.dataLe false kPy) := PySem.W.sortLe_total (PyProof.Rows.listOrd PyProof.Rows.itemOrd) false fun e : Key => PySem.W.keyToks (kPy e)
theorem leK_anti {a b : Key} (e : isI a = isI b) (h1 : PySem.W.dataLe false kPy a b = true) (h2 : PySem.W.dataLe false kPy b a = true) : a = b := by
  have g1 : (!PySem.W.dataLt (kPy b) (kPy a)) = true := h1
  have g2 : (!PySem.W.dataLt (kPy a) (kPy b)) = true := h2
  cases a with
  | inl i =>
    cases b with
    | inl j =>
      simp only [kPy, PySem.W.dataLt_int, Bool.not_eq_true', decide_eq_false_iff_not] at g1 g2
      rw [show i = j by omega]
    | inr y => cases e
  | inr x =>
    cases b with
    | inl j => cases e
    | inr y =>
      simp only [kPy, PySem.W.dataLt_str, Bool.not_eq_true', decide_eq_false_iff_not] at g1 g2
      have h3 : x.cps.toList = y.cps.toList := List.le_antisymm (List.not_lt.mp g1) (List.not_lt.mp g2)
      have h4 : x = y := by
        obtain ⟨x⟩ := x
        obtain ⟨y⟩ := y
        have : x = y := by
          apply Array.ext'
          exact h3
        rw [this]
      rw [h4]
theorem sort_any {ks l : List Key} (hs : sameK ks = true) (p : l.Perm (nubK ks)) : l.mergeSort (PySem.W.dataLe false kPy) = srtK ks := by
  unfold srtK
  have p1 := ((List.mergeSort_perm l (PySem.W.dataLe false kPy)).trans p).trans (List.mergeSort_perm (nubK ks) (PySem.W.dataLe false kPy)).symm
  refine p1.eq_of_pairwise (le := fun a b => PySem.W.dataLe false kPy a b = true) (fun a b ha hb h1 h2 => leK_anti (sameK_two hs ?_ ?_) h1 h2) (PySem.W.sort_pairwise leK_total l) (PySem.W.sort_pairwise leK_total _)
  · exact nubK_mem.mp (p.mem_iff.mp ((List.mergeSort_perm _ _).mem_iff.mp ha))
  · exact nubK_mem.mp ((List.mergeSort_perm _ _).mem_iff.mp hb)
theorem srtK_len (ks : List Key) : (srtK ks).length ≤ ks.length := by
  unfold srtK; rw [List.length_mergeSort]; exact nubK_len ks
theorem alikeK {ks : List Key} (hs : sameK ks = true) : PySem.W.AllAlike (ks.map kPy) := by
  intro d hd d' hd'
  obtain ⟨a, ha, rfl⟩ := List.mem_map.mp hd
  obtain ⟨b, hb, rfl⟩ := List.mem_map.mp hd'
  have e := sameK_two hs ha hb
  cases a <;> cases b <;> first | rfl | cases e
theorem sortableK (ks : List Key) : PySem.W.Sortable (ks.map kPy) := .inr fun d hd => by
  obtain ⟨a, ha, rfl⟩ := List.mem_map.mp hd
  cases a
  · exact ⟨fun z => (by cases z), fun _ z => (by cases z)⟩
  · exact ⟨fun z => (by cases z), fun _ z => (by cases z)⟩
theorem each_vals : ∀ {us : List Value} {ks : List Key}, PySem.W.EachIs (fun v k => RelV (kV k) v) us ks → Vals (ks.map kV) us
  | _, _, .nil => .nil
  | _, _, .cons a r => .cons a (each_vals r)
theorem each_keys : ∀ (us : List Value), (∀ v ∈ us, RelV (kV (keyV v)) v) → PySem.W.EachIs (fun v k => RelV (kV k) v) us (us.map keyV)
  | [], _ => .nil
  | v :: us, h => .cons (h v List.mem_cons_self) (each_keys us fun u hu => h u (List.mem_cons_of_mem _ hu))
theorem reads_key {h : Heap} {k : Key} {v : Value} (r : RelV (kV k) v) : Reads h v (kPy k) [] := by
  cases k with
  | inl i => obtain ⟨t, rfl⟩ := r; exact .int _ _
  | inr x => obtain ⟨t, rfl⟩ := r; exact .str _ _
theorem depthK (k : Key) : (kPy k).depth ≤ 1 := by cases k <;> simp [kPy, PyData.depth]
section
variable {P : Program} {w : World} {A : Around} {E : Value → Shared → Prop} {s : Shared} {a : Addr} {ks : List Key}
theorem sorted_setX {Q : Value → Shared → Prop} (R : SetX P w s.heap a (nubK ks)) (hs : sameK ks = true) (hh : A.handled = none) (hu : A.units + 64 < cLine)
    (hQ : ∀ s' p (out : Array Value) (c : Nat), (∀ b o, s.heap.get? b = some o → s'.heap.get? b = some o) → s'.gens = s.gens → s'.os = s.os → s.heap.objs.size ≤ p →
      s'.heap.get? p = some (seqObj "list" out c) → Vals ((srtK ks).map kV) out.toList → Q (.ref p) s') :
    wpAny (model P w) A (call (.builtin "sorted") [.ref a]) Q E s := by
  obtain ⟨o, es, ep, t, ho, hex, hd, g, pm0, nd, hb, hf, hr, hl⟩ := R
  refine Calls.call_function_entry kind_sorted plain_sorted entry_sorted (args_sorted1 _) ?_
  unfold Builtin.«sorted»
  refine wpAny_bind (m := checkCount "sorted" 1 1 _) (wpAny_pure ?_)
  refine wpAny_bind (collect_set (A := A.in1) hh ⟨o, ho, hex.1, hd⟩ hf hb hr hl fun s1 vs k1 hz g1 o1 pm => ?_)
  have hgv : ∀ v ∈ vs, RelV (kV (keyV v)) v := fun v hv => by
    obtain ⟨e, he, q⟩ := List.mem_map.mp (pm.mem_iff.mp hv)
    rw [← q]
    exact (g e he).1
  have pk : (vs.map keyV).Perm (nubK ks) := by
    have q := pm.map keyV
    rw [List.map_map] at q
    exact q.trans pm0
  have hvl : vs.length = es.size := by rw [pm.length_eq, List.length_map, Array.length_toList]
  have hsz : vs.length ≤ sizeLine := by rw [hvl]; exact fits_of_scanBound hb
  refine wpAny_bind (wpAny_newList ?_ hsz)
  have hoL : (s1.heap.push (seqObj "list" vs.toArray 0)).get? s1.heap.objs.size = some (seqObj "list" vs.toArray 0) := Heap.get?_push_size _ rfl
  have hms : ∀ k ∈ vs.map keyV, k ∈ ks := fun k hk => nubK_mem.mp (pk.mem_iff.mp hk)
  have hsk : sameK (vs.map keyV) = true := sameK_mem hs hms
  have ek := each_keys vs hgv
  refine wpAny_bind (wpAny_holding (PySem.W.list_sort_data (R := fun v k => RelV (kV k) v) (enc := kPy) (bs := vs.map keyV) hoL ek
    (ek.mono fun v k r => ⟨[], reads_key r, by simp⟩) (alikeK hsk) (sortableK _) (by rw [List.length_map]; exact hsz) (fun b _ => ?_) fun out ho eo => ?_))
  · have := depthK b
    show A.units + 1 + 1 + (kPy b).depth < cLine
    omega
  · rw [sort_any hs pk] at eo
    obtain ⟨c, hc⟩ := sortedHeap_at (vs := vs) (out := List.toArray out) hoL
    refine wpAny_pure ⟨_, rfl, hQ _ s1.heap.objs.size (List.toArray out) c (fun b u e => ?_) g1 o1 hz hc (by simpa using each_vals eo)⟩
    have q := k1 b u e
    have hlt := Heap.lt_size q
    show (sortedHeap (s1.heap.push (seqObj "list" vs.toArray 0)) s1.heap.objs.size vs (List.toArray out)).get? b = some u
    rw [sortedHeap_old (Nat.ne_of_lt hlt) (by rw [size_push']; exact Nat.lt_succ_of_lt hlt)]
    exact Heap.get?_push_of_some _ q
end
/-! ### the rule -/
theorem inv_lst {X : Cx} {pins : List (Addr × Obj)} {σ : L2.St} {H : Hp} {s s' : Shared} {p : Addr} {xs : List V} {out : Array Value} {c : Nat} (I : L2.Inv X pins σ H s) (k : ∀ b o, s.heap.get? b = some o → s'.heap.get? b = some o)
    (g : s'.gens = s.gens) (o : s'.os = s.os) (hp : s.heap.objs.size ≤ p) (hg : s'.heap.get? p = some (seqObj "list" out c)) (hv : Vals xs out.toList) (hl : xs.length ≤ sizeLine) : H p = none ∧ L2.Inv X pins σ (upd H p (.lst xs)) s' := by
  have hn : H p = none := I.hok.fresh hp
  refine ⟨hn, ?_⟩
  have J : L2.Inv X pins σ (upd H p (.lst xs)) { s with heap := s'.heap, gens := s'.gens, drawn := s'.drawn, toks := s'.toks } :=
    I.call (ch := []) (Un.laid k hp hn) (I.hok.laid k hp ⟨hl, out.toList, c, hv, hg⟩) (by rw [g]; exact I.bare) (fun _ z => nomatch z)
  have e : s' = { s with heap := s'.heap, gens := s'.gens, drawn := s'.drawn, toks := s'.toks } := by
    cases s'
    cases s
    cases o
    rfl
  rw [e]
  exact J
def tSortSet (K : Fg) (ta : TE) : TE := fun σ H Q => ta σ H fun x H1 => ∃ (l : Addr) (ks : List Key), x = .ref l ∧ SqL K H1 l (ks.map kV) ∧ ks.length ≤ 4000 ∧ sameK ks = true ∧
  ∀ p, H1 p = none → Q (.ref p) (upd H1 p (.lst ((srtK ks).map kV)))
theorem pe_sortSet {X : Cx} {a : Expr} {ta : TE} {p p2 q pos : Pos} (hc : X.calm = true) (hu : X.A.units + 64 < cLine) (hg : Gl X "sorted") (hm : X.mg "sorted" = none) (hg2 : Gl X "set") (hm2 : X.mg "set" = none) (ha : PE X a ta)
    (na : starEach [a] X.env = (false, eval a X.env) :: starEach [] X.env := by rfl) : PE X (.Call (.Name "sorted" p) [.Call (.Name "set" p2) [a] [] q] [] pos) (tSortSet X.K ta) := by
  refine ⟨fun pins s σ H Q I h => ?_⟩
  refine Call_ (ld_blt I hg hm boot_sorted ?_)
  refine PyProof.Rows.callWith_builtin1 (PyProof.Rows.args_cons ?_ rfl) rfl rfl
  refine Call_ (ld_blt I hg2 hm2 boot_set ?_)
  refine PyProof.Rows.callWith_type1 (PyProof.Rows.args_cons (thn (ha.run pins s σ H _ I h) fun v s1 ⟨x, H1, I1, r1, q1⟩ => PyProof.Rows.args_nil ?_) na) na rfl
  obtain ⟨l, ks, rfl, hq, hlen, hs, q1⟩ := q1
  cases r1
  obtain ⟨its, r, pl, hz⟩ := I1.list hq
  refine call_setX (I1.ok.hd hc) pl.isList r (by unfold scanBound; omega) fun h' tk hS hk => PyProof.Rows.args_nil ?_
  have I2 : Inv X pins σ H1 { s1 with heap := h', toks := tk } := I1.kept hk
  refine sorted_setX hS hs (I1.ok.hd hc) hu fun s' p out c k g o hp hg' hv => ?_
  have hl2 : ((srtK ks).map kV).length ≤ sizeLine := by
    rw [List.length_map, sizeLine_eq]
    have := srtK_len ks
    omega
  obtain ⟨hn, J⟩ := inv_lst I2 k g o hp hg' hv hl2
  exact ⟨.ref p, _, J, rfl, q1 p hn⟩
/-! ### the mirror -/
def dKey : D → Option Key
  | .int i => some (.inl i)
  | .str x => some (.inr x)
  | _ => none
def kD : Key → D
  | .inl i => .int i
  | .inr x => .str x
def keysD : List D → Option (List Key)
  | [] => some []
  | d :: ds => (dKey d).bind fun k => (keysD ds).map (k :: ·)
def sortSetM (f : ME) : MA := fun env st => (f env st).bind fun p => match dr p.2 p.1 with
  | .lst ds => (keysD ds).bind fun ks => if (sameK ks && decide (ks.length ≤ 4000)) = true then some ((srtK ks).map kD, p.2) else none
  | _ => none
section
variable {K : Fg} {dk : Dk} {F F' F0 : Fz} {H H' H0 : Hp} {σ : L2.St} {env : Sg} {st : S}
theorem rps_keys : ∀ {vs : List V} {ds : List D} {ks : List Key}, Rps K dk F vs ds → keysD ds = some ks → vs = ks.map kV
  | _, _, ks, .nil, h => by cases h; rfl
  | _, _, ks, .cons a r, h => by
    obtain ⟨k, h1, h⟩ := bnd h
    obtain ⟨l, h2, rfl⟩ := mpd h
    rw [List.map_cons, ← rps_keys r h2]
    congr 1
    unfold dKey at h1
    split at h1
    · cases h1; cases a; rfl
    · cases h1; cases a; rfl
    · cases h1
theorem kD_rps : ∀ ks : List Key, Rps K dk F (ks.map kV) (ks.map kD)
  | [] => .nil
  | .inl i :: ks => .cons (.int i) (kD_rps ks)
  | .inr x :: ks => .cons (.str x) (kD_rps ks)
theorem if_sortSet {ta : TE} {f : ME} (ha : ImW K ta f) : ImF K (tSortSet K ta) (sortSetM f) := fun dk H0 F0 F σ H env st d st' g e Q q => by
  obtain ⟨⟨x, s1⟩, h1, e⟩ := bnd e
  refine ha dk H0 F0 F σ H env st x s1 g h1 _ fun v F1 H1 x1 g1 r1 => ?_
  have r := r1.dr g1.wd
  dsimp only at e
  generalize dr s1 x = y at e r
  split at e
  · rename_i ds
    obtain ⟨ks, hk, e⟩ := bnd e
    split at e
    · rename_i hG
      cases e
      obtain ⟨p, us, rfl, hp, r2⟩ := r.l g1.wd.sub
      rw [rps_keys r2 hk] at hp
      rw [Bool.and_eq_true, decide_eq_true_eq] at hG
      refine ⟨p, ks, rfl, SqL.of hp, hG.2, hG.1, fun l hl => ?_⟩
      have px : Px F1 H1 F1 (upd H1 l (.lst ((srtK ks).map kV))) := Px.lay g1.wd.sub hl
      exact q l _ F1 _ (x1.trans px.ext) (g1.px px) (x1.back hl) (g1.wd.out hl) upd_same (kD_rps _)
    · cases e
  · cases e
end
end MD

set_option Elab.async false
set_option linter.all false
set_option maxRecDepth 100000
set_option maxHeartbeats 1000000
namespace MD
open PySem PySem.Spec PyProof.Rows L2
variable {ww : WW}
/-! ### dicts with nested keys: d[k], d.get(k), len(d), {} -/
def getN : List D → List D → NestedKey → Option D
  | x :: ks, y :: ds, k => if nkOf x = some k then some y else getN ks ds k
  | _, _, _ => none
section
variable {K : Fg} {dk : Dk} {F : Fz} {H : Hp} {st : S}
theorem getN_at : ∀ {zs : Zs} {ks ds : List D} {vs : List V} (k : NestedKey), ks.map nkOf = zs.map (fun z => some z.1) → Vals vs (zs.map fun z => z.2.2) → Rps K dk F vs ds →
    (∀ d, getN ks ds k = some d → ∃ p v, atKey zs k = some p ∧ RelV v p.2 ∧ Rp K dk F v d) ∧ (getN ks ds k = none → atKey zs k = none)
  | [], [], _, _, k, _, _, _ => ⟨fun d h => (by cases h), fun _ => rfl⟩
  | [], _ :: _, _, _, k, e, _, _ => by cases e
  | _ :: _, [], _, _, k, e, _, _ => by cases e
  | z :: zs, x :: ks, _, v0 :: vs, k, e, .cons a b, .cons c f => by
    rw [List.map_cons, List.map_cons] at e
    injection e with e1 e2
    obtain ⟨i1, i2⟩ := getN_at k e2 b f
    unfold getN atKey
    rw [List.find?_cons]
    by_cases h : z.1 = k
    · rw [e1, if_pos (by rw [h])]
      simp only [h, decide_true]
      exact ⟨fun d hd => (by cases hd; exact ⟨z.2, v0, rfl, a, c⟩), fun hd => (by cases hd)⟩
    · rw [e1, if_neg (fun q => h (Option.some.inj q))]
      simp only [h, decide_false]
      exact ⟨i1, i2⟩
end
def tNGet [WW] (K : Fg) (td ty : TE) : TE := fun σ H Q => td σ H fun x H1 => ty σ H1 fun y H2 => ∃ b c k zs p v, x = .ref c ∧ y = .ref b ∧ Nk K H2 k (.ref b) ∧ k.depth ≤ 8 ∧ NkD K H2 c zs ∧ atKey zs k = some p ∧ RelV v p.2 ∧ Q v H2
def tNGet1 [WW] (K : Fg) (td ty : TE) : TE := fun σ H Q => td σ H fun x H1 => ∃ c, x = .ref c ∧ (∃ zs, NkD K H1 c zs) ∧ ty σ H1 fun y H2 => ∃ b k zs v, y = .ref b ∧ Nk K H2 k (.ref b) ∧ k.depth ≤ 8 ∧ NkD K H2 c zs ∧
  RelV v (((atKey zs k).map (·.2)).getD .none) ∧ Q v H2
section
variable {X : Cx} {o i e : Expr} {pos apos cpos : Pos} {td ty : TE}
theorem pe_nget (hu : X.A.units + 64 < cLine) (hw : X.w = WW.w) (ho : PE X o td) (hi : PE X i ty) (hs : NoSl i := by intro _ _; rfl) : PE X (.Subscript o i pos) (tNGet X.K td ty) := by
  refine ⟨fun pins s σ H Q I h => ?_⟩
  refine subD_of PySem.F.slot_dict_getitem.lookup hs (thn (ho.run pins s σ H _ I h) fun u s1 ⟨x, H1, I1, rx, q1⟩ => thn (hi.run pins s1 σ H1 _ I1 q1) fun iv s2 ⟨y, H2, I2, ry, b, c, k, zs, p, v, ex, ey, hk, hd, dd, hp, rv, q2⟩ => ?_)
  subst ex ey
  obtain rfl : u = Value.ref c := rx
  obtain rfl : iv = Value.ref b := ry
  obtain ⟨d1, d2, d3⟩ := dd.dict hw I2
  exact ⟨d1.typeIs, wpAny_getItem_heap (room_nk hu) ⟨Nk.is I2 hk rfl, hd⟩ d1 hp ⟨v, H2, I2.tok _, rv, q2⟩⟩
theorem pe_nget1 (hu : X.A.units + 64 < cLine) (hw : X.w = WW.w) (ho : PE X o td) (he : PE X e ty) (m : M1 X o "get" apos e cpos) : PE X (.Call (.Attribute o "get" apos) [e] [] cpos) (tNGet1 X.K td ty) := by
  refine ⟨fun pins s σ H Q I h => ?_⟩
  refine wpAny_Call_method m.base m.few m.line PySem.F.plainAttrs_dict PySem.F.slot_dict_get PySem.F.type_dict_get (thn (ho.run pins s σ H _ I h) fun u s1 ⟨x, H1, I1, rx, c, ex, d, q1⟩ => ?_)
  subst ex
  obtain rfl : u = Value.ref c := rx
  obtain ⟨zs, dd⟩ := d
  obtain ⟨d1, d2, d3⟩ := dd.dict hw I1
  refine ⟨d1.typeIs, fun b q => ?_, ?_⟩
  · cases q
    obtain ⟨ob, _, _, h1, h2, _⟩ := d1
    exact ⟨ob, h1, h2.2.1⟩
  rw [m.trees]
  refine Calls.callWith_builtin rfl (Calls.evalArgs_plain (Calls.spliced_cons (thn (he.run pins s1 σ H1 _ I1 q1) fun iv s2 ⟨y, H2, I2, ry, b, k, zs2, v, ey, hk, hd, dd2, rv, q2⟩ => Calls.spliced_nil ?_)))
  subst ey
  obtain rfl : iv = Value.ref b := ry
  obtain ⟨g1, g2, g3⟩ := dd2.dict hw I2
  exact call_meetsIn PySem.F.slot_dict_get g1.typeIs PySem.F.entry_dict_get (PySem.F.args_dict_get_2 _ _) (meetsH_dict_get (nestedKind X.prog X.w) c b g2) ⟨room_nk hu, k, zs2, ⟨Nk.is I2 hk rfl, hd⟩, g1, ⟨v, H2, I2.tok _, rv, q2⟩⟩
end
def rLenN [WW] (K : Fg) : List V → Hp → VK → Prop := fun xs H Q => ∃ c zs, xs = [.ref c] ∧ NkD K H c zs ∧ Q (.int ((zs.length : Nat) : Int)) H
theorem call_lenN {X : Cx} (hw : X.w = WW.w) : CallR X (.builtin "len") (rLenN X.K) := by
  intro pins s σ H xs us Q I r h
  obtain ⟨c, zs, rfl, dd, q⟩ := h
  rw [Vals.ref1 r]
  obtain ⟨d1, d2, d3⟩ := dd.dict hw I
  exact call_len_dictH d2 d1 (by rw [sizeLine_eq] at d3; omega) ⟨.int ((zs.length : Nat) : Int), H, I.tok _, ⟨_, rfl⟩, q⟩
/-- {}, for the store -/
def tNewN [WW] : TE := fun σ H Q => ∀ p, H p = none → Q (.ref p) (upd H p (.ext (NkAt p [])))
theorem pe_newN {X : Cx} {pos : Pos} (hw : X.w = WW.w) : PE X (.Dict [] [] pos) tNewN := by
  refine ⟨fun pins s σ H Q I q => ?_⟩
  have hn := I.hok.fresh (Nat.le_refl s.heap.objs.size)
  have hsys : (s.heap.objs.size == sysModules) = false := (dk_empty (P := X.prog) (w := X.w) (H := H) s.heap I.big).2.1
  have I1 := I.laid (a := s.heap.objs.size) (o := .ext (NkAt s.heap.objs.size [])) (h' := s.heap.push { cls := .type "dict", data := .dict #[] }) (t' := s.toks) (fun _ _ q => Heap.get?_push_of_some _ q) (Nat.le_refl _)
    (nk_ok hsys (Nat.zero_le _) hw (Heap.DictOfH.new (knd := nestedKind X.prog X.w) s.heap))
  exact wpAny_Dict_empty ⟨.ref s.heap.objs.size, _, I1, rfl, q _ hn⟩
section
variable {K : Fg}
def ngetM (fd fk : ME) : ME := fun env st => (fd env st).bind fun p => (fk env p.2).bind fun q => (refOf p.1).bind fun n => (nkdAt q.2 n).bind fun z => (nkT q.1).bind fun k => if k.depth ≤ 8 then (getN z.1 z.2 k).map fun d => (d, q.2) else none
theorem im_nget {td ty : TE} {fd fk : ME} (hd : Im K td fd) (hk : Im K ty fk) : Im K (tNGet K td ty) (ngetM fd fk) := fun dk H0 F0 F σ H env st d st' g e Q q => by
  obtain ⟨⟨x, s1⟩, e1, e⟩ := bnd e
  obtain ⟨⟨y, s2⟩, e2, e⟩ := bnd e
  obtain ⟨n, e3, e⟩ := bnd e
  obtain ⟨z, e4, e⟩ := bnd e
  obtain ⟨k, e5, e⟩ := bnd e
  split at e
  · rename_i hz
    obtain ⟨d', e6, e⟩ := mpd e
    cases e
    refine hd dk H0 F0 F σ H env st x s1 g e1 _ fun v F1 H1 x1 g1 r1 => ?_
    refine hk dk H0 F0 F1 σ H1 env s1 y s2 g1 e2 _ fun u F2 H2 x2 g2 r2 => ?_
    have hx : x = .ref n := refOf_eq e3
    subst hx
    obtain ⟨a, rfl, ha⟩ := r1.refn
    obtain ⟨zs, vs, dd, h2, h3, h4, h5⟩ := g2.wd.nkdAt (x2.f.at ha) e4
    obtain ⟨b, rfl, nk⟩ := r2.nkT g2.wd.sub e5
    obtain ⟨p, w, k1, k2, k3⟩ := (getN_at k h3 h4 h5).1 _ e6
    exact ⟨b, a, k, zs, p, w, rfl, rfl, nk, hz, dd, k1, k2, q w F2 H2 (x1.trans x2) g2 k3⟩
  · cases e
def nget1M (fd fk : ME) : ME := fun env st => (fd env st).bind fun p => (refOf p.1).bind fun n => (nkdAt p.2 n).bind fun _ => (fk env p.2).bind fun q => (nkdAt q.2 n).bind fun z => (nkT q.1).bind fun k => if k.depth ≤ 8 then some ((getN z.1 z.2 k).getD .non, q.2) else none
theorem im_nget1 {td ty : TE} {fd fk : ME} (hd : Im K td fd) (hk : Im K ty fk) : Im K (tNGet1 K td ty) (nget1M fd fk) := fun dk H0 F0 F σ H env st d st' g e Q q => by
  obtain ⟨⟨x, s1⟩, e1, e⟩ := bnd e
  obtain ⟨n, e3, e⟩ := bnd e
  obtain ⟨z0, e0, e⟩ := bnd e
  obtain ⟨⟨y, s2⟩, e2, e⟩ := bnd e
  obtain ⟨z, e4, e⟩ := bnd e
  obtain ⟨k, e5, e⟩ := bnd e
  split at e
  · rename_i hz
    cases e
    refine hd dk H0 F0 F σ H env st x s1 g e1 _ fun v F1 H1 x1 g1 r1 => ?_
    have hx : x = .ref n := refOf_eq e3
    subst hx
    obtain ⟨a, rfl, ha⟩ := r1.refn
    obtain ⟨zs0, vs0, dd0, _⟩ := g1.wd.nkdAt ha e0
    refine ⟨a, rfl, ⟨zs0, dd0⟩, ?_⟩
    refine hk dk H0 F0 F1 σ H1 env s1 y s2 g1 e2 _ fun u F2 H2 x2 g2 r2 => ?_
    obtain ⟨zs, vs, dd, h2, h3, h4, h5⟩ := g2.wd.nkdAt (x2.f.at ha) e4
    obtain ⟨b, rfl, nk⟩ := r2.nkT g2.wd.sub e5
    obtain ⟨i1, i2⟩ := getN_at k h3 h4 h5
    cases hg : getN z.1 z.2 k with
    | some d' =>
      rw [hg] at q
      obtain ⟨p, w, k1, k2, k3⟩ := i1 d' hg
      exact ⟨b, k, zs, w, rfl, nk, hz, dd, by rw [k1]; exact k2, q w F2 H2 (x1.trans x2) g2 k3⟩
    | none =>
      rw [hg] at q
      exact ⟨b, k, zs, .non, rfl, nk, hz, dd, by rw [i2 hg]; rfl, q .non F2 H2 (x1.trans x2) g2 .non⟩
  · cases e
def nlenM (fd : ME) : ME := fun env st => (fd env st).bind fun p => (refOf p.1).bind fun n => (nkdAt p.2 n).map fun z => (.int ((z.1.length : Nat) : Int), p.2)
theorem im_nlen {td : TE} {fd : ME} (hd : Im K td fd) : Im K (tCB (rLenN K) (tCons td tNil)) (nlenM fd) := fun dk H0 F0 F σ H env st d st' g e Q q => by
  obtain ⟨⟨x, s1⟩, e1, e⟩ := bnd e
  obtain ⟨n, e3, e⟩ := bnd e
  obtain ⟨z, e4, e⟩ := mpd e
  cases e
  refine hd dk H0 F0 F σ H env st x s1 g e1 _ fun v F1 H1 x1 g1 r1 => ?_
  have hx : x = .ref n := refOf_eq e3
  subst hx
  obtain ⟨a, rfl, ha⟩ := r1.refn
  obtain ⟨zs, vs, dd, h2, h3, h4, h5⟩ := g1.wd.nkdAt ha e4
  have hl : zs.length = z.1.length := by
    have := congrArg List.length h3
    simpa using this.symm
  refine ⟨a, zs, rfl, dd, ?_⟩
  rw [hl]
  exact q _ F1 H1 x1 g1 (.int _)
def stoN0 : ME := fun env st => some (.ref st.ob.length, st.ad (.nkd [] []))
theorem im_stoN0 : Im K tNewN stoN0 := fun dk H0 F0 F σ H env st d st' g e Q q => by
  cases e
  intro p hp
  have nd := g.nedk hp
  have px : Px F H F (upd H p (.ext (NkAt p []))) := Px.lay g.wd.sub hp
  have fp := g.wd.out hp
  have no := g.noown hp
  refine q (.ref p) _ _ (px.ext.ad hp) ((g.px px).ad upd_same fp (g.fresh0 hp) nd.1 nd.2 no ?_) (.ref (ad_at (g.px px).wd p))
  exact .nkd (zs := []) (vs := []) upd_same .nil rfl .nil .nil (by simp) fun z hz => nomatch hz
end
end MD

set_option Elab.async false
set_option linter.all false
set_option maxRecDepth 100000
set_option maxHeartbeats 1000000
namespace MD
open PySem PySem.Spec PyProof.Rows L2
variable {ww : WW}
/-! ### C.m(x, ..), a def read off its class -/
structure BRead (K : Fg) (C : Addr) (m : Str) (f : Addr) : Prop where
  rd : PySem.W.readsIn K C (.type "type") = true
  ga : PySem.W.specialIn K (.ref C) "__getattribute__" = some (some (.builtin "type.__getattribute__"))
  at_ : PySem.W.findCls K (.ref C) (.type "type") m = some (.val (.ref f))
  kp : PySem.W.keepIn K (.ref f) = true
def CalU (P : Program) (w : World) (K : Fg) (mg : Str → Option Value) (base : Heap) (k : Nat) (c m : Str) (ps : List Str) (sp : Sp) : Prop :=
  ∃ C : Addr, mg c = some (.ref C) ∧ ∃ f fd, FnG P w K mg base k f fd ps sp ∧ BRead K C m f ∧ Binds K fd ps []
theorem calU_mk {P : Program} {w : World} {K : Fg} {mg : Str → Option Value} {base : Heap} {k : Nat} {c m : Str} {ps : List Str} {sp : Sp} {C f : Addr} {fd : FuncData} (hm : mg c = some (.ref C)) (F : FnG P w K mg base k f fd ps sp) (M : BRead K C m f) (b : Binds K fd ps []) : CalU P w K mg base k c m ps sp :=
  ⟨C, hm, f, fd, F, M, b⟩
section
variable {X : Cx} {j k : Nat} {c m : Str} {ps : List Str} {sp : Sp} {p pos apos : Pos} {e : Expr} {es : List Expr} {t : TA}
theorem pe_baseC {pl : Sem Bool} (C : CalU X.prog X.w X.K X.mg X.base j c m ps sp) (hr : Room k X.A) (gd : X.A.guards = some []) (hg : Gl X c) (ha : PA X (e :: es) t) (hj : j ≤ k := by decide) (hdb : (c == ("__debug__" : Str)) = false := by decide)
    (hst : starEach (e :: es) X.env = (false, eval e X.env) :: starEach es X.env := by rfl) (hpl : (backTo pos (starEach es X.env)).any (·.1) = false := by rfl)
    (ht : eval (.Call (.Attribute (.Name c p) m apos) (e :: es) [] pos) X.env = (do
      let ov ← eval (.Name c p) X.env
      standAt apos.atName
      let (f, first) ← holding [ov] (getMethod ov m pl)
      callWith pos f first (backTo pos (starEach (e :: es) X.env)) (backToKw pos (keywordEach [] X.env))) := by rfl) :
    PE X (.Call (.Attribute (.Name c p) m apos) (e :: es) [] pos) (tCall sp [] E0 t) := by
  obtain ⟨C, hm, f, fd, F, M, hb⟩ := C
  refine ⟨fun pins s σ H Q I h => ?_⟩
  refine PySem.W.methodCall_KW (pl := pl) (ld_glob I hg hm ?_ hdb) ht
  refine PySem.W.method_cls I.kIn M.ga (PySem.W.cls_value I.kIn M.rd M.at_ rfl ?_)
  have I1 : L2.Inv X pins σ H { s with toks := s.toks + 1 } := I.tok _
  refine PySem.W.callWith_K (first := []) (h₀ := X.base) I1.ok.mod.kin M.kp (thn (ha.run pos pins _ σ H _ I1 h) fun us s2 q0 => ?_) hst hpl
  obtain ⟨vs, H2, I2, r, q⟩ := q0
  rw [List.append_nil] at q
  exact ⟨I2.kIn, runG F (hr.mono hj) gd hb I2 r q⟩
end
end MD

set_option Elab.async false
set_option linter.all false
set_option maxRecDepth 100000
set_option maxHeartbeats 1000000
namespace MD
open PySem PySem.Spec PyProof.Rows L2
variable {ww : WW}
/-! ### for k in d, d a dict with nested keys -/
def Itnk [WW] (d : Addr) (o : Obj) (zs : Zs) : It :=
  ⟨fun i H => H d = some (.frz o (.ext (NkAt d zs))) ∧ i < zs.length, fun i H x H' => H' = H ∧ ∃ z, zs[i]? = some z ∧ x = .ref z.2.1, fun i H => H d = some (.frz o (.ext (NkAt d zs))) ∧ zs.length ≤ i⟩
section
variable {X : Cx} {pins : List (Addr × Obj)} {σ : L2.St} {H : Hp} {s : Shared} {d : Addr} {o : Obj} {zs : Zs}
theorem frzN (I : L2.Inv X pins σ H s) (h : H d = some (.frz o (.ext (NkAt d zs)))) :
    (d == sysModules) = false ∧ s.heap.get? d = some o ∧ o.ExactDict ∧ ∃ (es : Array DictEntry) (ep : Nat), o.data = .dict es ep ∧ es.size = zs.length ∧ ∀ (i : Nat) z, zs[i]? = some z → ∃ en : DictEntry, es[i]? = some en ∧ en.key = .ref z.2.1 := by
  obtain ⟨hd, ⟨hs, hl, o', es, ep, ho, hx, hdt, he⟩, _, _⟩ := I.hok d _ h
  rw [hd] at ho
  cases ho
  have h1 := he
  have hz : es.size = zs.length := by rw [← Array.length_toList, h1, List.length_map]
  refine ⟨hs, hd, hx, es, ep, hdt, hz, fun i z hi => ⟨nent WW.w z, ?_, rfl⟩⟩
  rw [← Array.getElem?_toList, h1, List.getElem?_map, hi]
  rfl
end
section
variable {P : Program} {w : World} {K : PySem.W.Frag} {tg : Expr} {d : Addr} {o : Obj} {es : Array DictEntry} {ep : Nat} {zs : Zs}
theorem turn_nk (it : Addr) (hod : o.data = .dict es ep) : Turn P w K tg (Itnk d o zs) [it] it (fun i h => h.IsKeyIter it d i zs.length ep) where
  mem := by simp
  obj := fun i h st b hb => by
    have e : b = it := by simpa using hb
    subst e
    obtain ⟨oi, e, c, dd⟩ := st
    exact ⟨oi, e, fun v z => by rw [dd] at z; cases z⟩
  keep := fun i h h' st k => st.at fun oi e => k it (by simp) oi e
  item := by
    intro X hP hw hK hc i pins s σ H E I hf st hg
    subst hP hw hK
    obtain ⟨hd, hi⟩ := hg
    obtain ⟨f0, f1, f2, f3, f4, f5⟩ := hf it (by simp)
    obtain ⟨hs, hgd, hx, es', ep', hdt, hsz, ent⟩ := frzN I hd
    obtain ⟨rfl, rfl⟩ := dict_ep hod hdt
    have hz : zs[i]? = some zs[i] := List.getElem?_eq_getElem hi
    obtain ⟨en, hen, hkey⟩ := ent i _ hz
    refine next_key_item st hgd hdt hsz hen fun h' st' sb => ?_
    have I1 : L2.Inv X pins σ H { s with heap := h' } := I.turned (t' := s.toks) (fun b ob hb e => (sb.2 b hb).trans e) f0 f1 f3 f4 f5
    obtain ⟨oi, e, c, dd⟩ := id st'
    exact ⟨en.key, rfl, go_of (s := { s with heap := h' }) e c dd (by decide) ⟨.ref zs[i].2.1, H, I1, hkey, ⟨rfl, zs[i], hz, rfl⟩, st', fun b hb => (hf b hb).1⟩⟩
  done := by
    intro X hP hw hK hc i pins s σ H E I hf st hg
    subst hP hw hK
    obtain ⟨hd, hi⟩ := hg
    obtain ⟨f0, f1, f2, f3, f4, f5⟩ := hf it (by simp)
    obtain ⟨hs, hgd, hx, es', ep', hdt, hsz, ent⟩ := frzN I hd
    obtain ⟨rfl, rfl⟩ := dict_ep hod hdt
    exact next_key_end (I.ok.hd hc) st hgd hdt hsz hi fun h' eb => ⟨rfl, I.turned (t' := s.toks) (fun b ob hb e => eb b ob hb e) f0 f1 f3 f4 f5⟩
  self := fun A i s Q E st h => by
    refine wpAny_pyIter_slot st.typeIs F.slot_dict_keyiterator_iter (wpAny_call_entry F.slot_dict_keyiterator_iter st.typeIs F.entry_dict_keyiterator_iter ?_ (F.args_dict_keyiterator_iter_1 _))
    show wpAny _ _ (ret (.ref it)) _ _ s
    exact wpAny_pure ⟨_, rfl, "dict_keyiterator", _, st.typeIs, F.slot_dict_keyiterator_next.lookup, h⟩
end
def iKeysN [WW] (td : TE) : TI := fun σ H R => td σ H fun x H1 => ∃ d o zs, x = .ref d ∧ H1 d = some (.frz o (.ext (NkAt d zs))) ∧ R (Itnk d o zs) H1
theorem pi_keysN {X : Cx} {tg e : Expr} {td : TE} (he : PE X e td) : PI X tg e (iKeysN td) := by
  refine ⟨fun pins s σ H R I h => ?_⟩
  refine thn (he.run pins s σ H _ I h) fun u s1 ⟨x, H1, I1, rx, d, o, zs, ex, hd, q⟩ => ?_
  subst ex
  obtain rfl : u = Value.ref d := rx
  obtain ⟨hs, hgd, hx, es, ep, hdt, hsz, ent⟩ := frzN I1 hd
  refine iter_keys hs hgd hx hdt (pi_one (tk := s1.toks) I1 _ (turn_nk _ hdt) ⟨_, Heap.get?_push_size _ rfl, rfl, ?_⟩ q)
  rw [hsz] <;> rfl
section
variable {K : Fg} {dk : Dk} {F F' F0 : Fz} {H H' H0 : Hp} {σ : L2.St} {env : Sg} {st st' st'' : S}
/-- an expression that only looks, whatever dict is locked -/
def PthN [WW] (K : Fg) (te : TE) (f : ME) : Prop := ∀ (dk : Dk) (H0 : Hp) (F0 F : Fz) (σ : L2.St) (H : Hp) (env : Sg) (st : S) (d : D) (st' : S), Good K dk H0 F0 F σ H env st → f env st = some (d, st') →
  st' = st ∧ ∃ v, Rp K dk F v d ∧ ∀ (a : Addr) (od : Obj) (φ : Heap → Prop), H a = some (.ext φ) → ∀ Q : VK, Q v (upd H a (.frz od (.ext φ))) → te σ (upd H a (.frz od (.ext φ))) Q
theorem pthn_var (i : Nat) : PthN K (tVar i) (rd i) := fun dk H0 F0 F σ H env st d st' g e => by
  unfold rd at e
  split at e
  · rename_i d' he
    cases e
    obtain ⟨v, h1, h2⟩ := g.sl i _ he
    exact ⟨rfl, v, h2, fun a od φ _ Q q => ⟨v, join_eq h1, q⟩⟩
  · cases e
theorem pthn_fld {cs fl : List Str} {f : Str} {to : TE} {fo : ME} (hc : ∀ c ∈ cs, ClsOk K c fl) (hf : f ∈ fl) (hp : PthN K to fo) : PthN K (tFld K to f) (fldM cs f fo) := fun dk H0 F0 F σ H env st d st' g e => by
  obtain ⟨⟨x, s1⟩, e1, e⟩ := bnd e
  obtain ⟨n, e2, e⟩ := bnd e
  obtain ⟨z, e3, e⟩ := bnd e
  obtain ⟨d', e4, e⟩ := mpd e
  cases e
  obtain ⟨es, v, r, q2⟩ := hp dk H0 F0 F σ H env st x _ g e1
  have es' : s1 = st := es
  subst es'
  have hx : x = .ref n := refOf_eq e2
  subst hx
  obtain ⟨a, rfl, ha⟩ := r.refn
  obtain ⟨C, dx, vs, h1, h2, h3, h4⟩ := g.wd.insAt ha e3
  obtain ⟨u, h5, h6⟩ := lookF_rp h3 h4 e4
  have ok := hc _ (insAt_eq e3).2
  refine ⟨rfl, u, h6, fun b od φ hb Q q => q2 b od φ hb _ ⟨a, C, dx, _, u, rfl, ?_, ok.cl C h1, ok.no C h1 f hf, h5, q⟩⟩
  rw [upd_ne (fun z => by rw [z, hb] at h2; cases h2)]
  exact h2
def lckN (st : S) (n : Nat) : S := match st.ob[n]? with
  | some (.nkd ks ds) => st.put n (.nkl ks ds)
  | _ => st
def unlN (st : S) (n : Nat) : S := match st.ob[n]? with
  | some (.nkl ks ds) => st.put n (.nkd ks ds)
  | _ => st
def forN (f : ME) (t : MG) (b : MS) : MS := fun env st => (f env st).bind fun p => match p.1 with
  | .ref n => match st.ob[n]? with
    | some (.nkd ks _) => (forL t b ks env (lckN st n)).map fun r => (r.1, unlN r.2 n)
    | _ => none
  | _ => none
theorem nfx {φ : Heap → Prop} : ¬ Fro (.ext φ) := by rintro ⟨_, _, z⟩; cases z
theorem Wd.unlNS {n : Nat} {a : Addr} {od : Obj} {zs : Zs} (w : Wd K dk F H st) (hn : F.mu[n]? = some a) (ha : H a = some (.frz od (.ext (NkAt a zs)))) : Wd K dk F (L2.upd H a (.ext (NkAt a zs))) (unlN st n) := by
  have hlt : n < st.ob.length := by rw [← w.ml]; exact mu_lt hn
  obtain ⟨q1, q2⟩ := w.ob n a _ hn (List.getElem?_eq_getElem hlt)
  unfold unlN
  rw [List.getElem?_eq_getElem hlt]
  generalize st.ob[n] = o at q2
  cases q2 with
  | lst h r => rw [ha] at h; cases h
  | dic h l r => rw [ha] at h; cases h
  | lck h l r => rw [ha] at h; cases h
  | ins c h l r => rw [ha] at h; cases h
  | nkd h _ _ _ _ _ _ => rw [ha] at h; cases h
  | tab _ h _ _ => rw [ha] at h; cases h
  | exc _ h _ => unfold L2.exo at h; rw [ha] at h; cases h
  | exc0 _ h => unfold L2.ExO at h; rw [ha] at h; cases h
  | @nkl od' zs' vs ks ds h k q v r nn dd =>
    rw [ha] at h
    have h2 : (HO.ext (NkAt a zs)) = .ext (NkAt a zs') := by
      injection h with h
      injection h with _ h
    rw [h2]
    exact w.put hn (.nkd upd_same k q v r nn dd)
theorem is_forN {te : TE} {f : ME} {g : TG} {tb : TS} {t : MG} {b : MS} {is : List Nat} (hp : PthN K te f) (hg : ImG K g t is) (hb : ImS K tb b) : ImS K (tLock (tFor (iKeysN te) g tb)) (forN f t b) := fun dk H0 F0 F σ H env st fl st' gd e E hd => by
  obtain ⟨⟨d, s1⟩, e1, e⟩ := bnd e
  obtain ⟨es, v, r, q2⟩ := hp dk H0 F0 F σ H env st d s1 gd e1
  dsimp only at e
  split at e
  · rename_i n
    cases r with
    | @ref a _ hn =>
      have hm := List.mem_of_getElem? hn
      obtain ⟨n1, n2⟩ := gd.wd.ndk hm
      have no : ∀ (i : Nat) (ds : Own), env[i]? = some (.own ds) → σ[i]? ≠ some (some (.ref a)) := fun i ds hi hs => by
        obtain ⟨p, _, h1, _, h3, _⟩ := gd.sl i _ hi
        rw [hs] at h1
        cases h1
        exact h3.2 hm
      split at e
      · rename_i ks ds ho
        obtain ⟨⟨fl2, s2⟩, e2, e⟩ := mpd e
        cases e
        obtain ⟨_, ob⟩ := gd.wd.ob n a _ hn ho
        cases ob with
        | @nkd zs vs _ _ hH k q vv rr nn dd =>
          refine ⟨a, _, hH, trivial, fun od => ?_⟩
          have wl : Wd K dk F (L2.upd H a (.frz od (.ext (NkAt a zs)))) (lckN st n) := by
            unfold lckN
            rw [ho]
            exact gd.wd.put hn (.nkl upd_same k q vv rr nn dd)
          have gl := gd.lock (od := od) no wl
          have hlen : zs.length = ks.length := by
            have := congrArg List.length q
            simpa using this.symm
          refine q2 a od _ hH _ ⟨a, od, zs, rfl, upd_same, ?_⟩
          refine for_core hg hb gl (fun F2 σ2 H2 env2 st2 le g2 i => ?_) e2 (Dn.unlock gd hH nfx (fun F' H' w le hf => w.unlNS (le.at hn) hf) n1 n2 hd) _ id
          have hs := gl.stays upd_same g2
          refine ⟨fun d hd => ?_, fun h => ⟨hs, by rw [hlen]; exact h⟩⟩
          obtain ⟨v, h1, h2⟩ := (k.mono le).get hd
          have hi : i < zs.length := by
            rw [hlen]
            exact (List.getElem?_eq_some_iff.mp hd).1
          refine ⟨⟨hs, hi⟩, fun x H3 hx => ?_⟩
          obtain ⟨rfl, z, hz, rfl⟩ := hx
          rw [List.getElem?_map, hz] at h1
          cases h1
          exact ⟨F2, Px.refl g2.wd.sub, h2⟩
      · cases e
  · cases e
end
end MD

set_option Elab.async false
set_option linter.all false
set_option maxRecDepth 100000
set_option maxHeartbeats 1000000
namespace MD
open PySem PySem.Spec PyProof.Rows L2
variable {ww : WW}
/-! ### x += y of texts -/
def tipS : TIp := fun x y H Q => ∃ i j, x = .str i ∧ y = .str j ∧ i.length + j.length ≤ sizeLine ∧ Q (.str (i ++ j)) H
theorem ip_addS {X : Cx} : PIp X .Add tipS := fun pins s σ H x y v u Q I r1 r2 h => iop_add_str pins s σ H x y v u Q I r1 r2 h
def addS : D → D → Option D
  | .str i, .str j => if i.length + j.length ≤ sizeLine then some (.str (i ++ j)) else none
  | _, _ => none
theorem ro_addS {K : Fg} : RO K tipS addS := by
  intro dk F H st x y d e z w rx ry hz Q q
  unfold addS at hz
  split at hz
  · exact ro_strCat dk F H st x y _ _ z w rx ry hz Q q
  · cases hz
end MD

set_option Elab.async false
set_option linter.all false
set_option maxRecDepth 100000
set_option maxHeartbeats 1000000
namespace MD
open PySem PySem.Spec PyProof.Rows L2
variable {ww : WW}
/-! ### o.C, a text constant of the class of o -/
structure ConOk (K : Fg) (c f x : Str) : Prop where
  of : ∀ C, clsOf K c = some C → ∃ u, Con K C f (.str x) u
theorem conOk_mk {K : Fg} {c f x : Str} {C : Addr} {t : Tok} (h : PySem.W.nsIn K mainGlobals c = some (some (.ref C))) (ha : PySem.W.findIn K (.ref C) f = some (some (.str x t))) (hg : PySem.W.specialIn K (.str x t) "__get__" = some none) (hc : PySem.W.copiedNames.contains f = false) : ConOk K c f x := by
  have e : clsOf K c = some C := by unfold clsOf; rw [h]
  refine ⟨fun C' h' => ?_⟩
  rw [e] at h'
  cases h'
  exact ⟨_, ⟨ha, ⟨t, rfl⟩, hg, hc⟩⟩
def conM (c f x : Str) (fo : ME) : ME := fun env st => (fo env st).bind fun p => (refOf p.1).bind fun n => (insAt [c] p.2 n).bind fun z => if f ∈ z.2.1 then none else some (.str x, p.2)
theorem im_con {K : Fg} {c f x : Str} {fl : List Str} {to : TE} {fo : ME} (hc : ClsOk K c fl) (hk : ConOk K c f x) (ho : Im K to fo) : Im K (tCon K to f) (conM c f x fo) := fun dk H0 F0 F σ H env st d st' g e Q q => by
  obtain ⟨⟨y, s1⟩, e1, e⟩ := bnd e
  obtain ⟨n, e2, e⟩ := bnd e
  obtain ⟨z, e3, e⟩ := bnd e
  split at e
  · cases e
  · rename_i hf
    cases e
    refine ho dk H0 F0 F σ H env st y s1 g e1 _ fun v F1 H1 x1 g1 r1 => ?_
    have hx : y = .ref n := refOf_eq e2
    subst hx
    obtain ⟨a, rfl, ha⟩ := r1.refn
    obtain ⟨C, dx, vs, h1, h2, h3, h4⟩ := g1.wd.insAt ha e3
    have hc1 : z.1 = c := List.mem_singleton.mp (insAt_eq e3).2
    rw [hc1] at h1
    obtain ⟨u, hu⟩ := hk.of C h1
    exact ⟨a, C, dx, _, _, u, rfl, h2, hc.cl C h1, hu, look_none hf, q (.str x) F1 H1 x1 g1 (.str x)⟩
end MD

set_option Elab.async false
set_option linter.all false
set_option maxRecDepth 100000
set_option maxHeartbeats 1000000
namespace MD
open PySem PySem.Spec PyProof.Rows L2
variable {ww : WW}
/-! ### x.extend(t), x a name's own list, t a tuple -/

theorem list_extend_tup (l : Addr) (items : Array Value) (n : Nat) (b : Addr) (items2 : Array Value) (n2 : Nat) (dd : Option Addr) (sl : Array (Option Value)) (hs0 : ¬(!items.isEmpty && Builtin.List.listTooLong (items.size + items2.size)) = true) (hs1 : items.size ≤ sizeLine) (hs2 : items.size + items2.size ≤ sizeLine + 1) :
    Meets (Builtin.«list.extend» ⟨[.ref l, .ref b], []⟩) (fun _ R s => s.heap.get? l = some { cls := .type "list", dict := none, data := .seq items n, slots := #[] } ∧ s.heap.get? b = some { cls := .type "tuple", dict := dd, data := .seq items2 n2, slots := sl } ∧ R (.ok (.ret Value.none)) { s with heap := s.heap.update l (Obj.mapSeq fun x => x ++ items2), toks := s.toks }) :=
  .of_wp fun prog w A R s h => by
    obtain ⟨hp, g, d, tk, os⟩ := s; obtain ⟨hl, hb, h⟩ := h; have f1 := AutoSeq1.idx_int; have f2 := AutoSeq1.sub_tuple_tuple; have f3 := AutoSeq1.sub_list_list; have f4 := AutoSeq1.sub_tuple_list; have f5 := AutoSeq1.sub_list_tuple;
    have hz' : (items ++ items2).size ≤ sizeLine + 1 := by rw [Array.size_append]; exact hs2
    wp_walk using (wpAny_updateSeq hl rfl (hz := hs1) (_hz' := hz')), AutoSeq1.wpAny_loadPart' hl, AutoSeq1.wpAny_loadPart' hb; exact ⟨_, rfl, h⟩
def rExtT (K : Fg) : V → List V → Hp → VK → Prop := fun x vs H Q => ∃ l b xs zs, x = .ref l ∧ vs = [.ref b] ∧ H l = some (.lst xs) ∧ SqT K H b zs ∧ xs.length + zs.length ≤ sizeLine ∧ Q .non (upd H l (.lst (xs ++ zs)))
theorem mt_extT {X : Cx} : MtM X "list.extend" (rExtT X.K) := by
  intro pins s σ H x vs v us Q I rx rv h
  obtain ⟨l, b, xs, zs, rfl, rfl, hH, hB, hz, q⟩ := h
  cases rx
  obtain ⟨u, rfl, ru⟩ := rv.one
  cases ru
  obtain ⟨z, its, n, r, hl, e⟩ := I.lstM hH
  obtain ⟨its2, r2, ⟨⟨cl, dd, da, sl⟩, e2, hc, n2, hd⟩, hl2⟩ := I.tuple hB
  cases hc
  cases hd
  have e9 := r2.length
  have hsz : its.toArray.size + its2.toArray.size ≤ sizeLine := by rw [List.size_toArray, List.size_toArray]; omega
  have hlong : ¬ (!its.toArray.isEmpty && Builtin.List.listTooLong (its.toArray.size + its2.toArray.size)) = true := by
    rw [notLongL hsz, Bool.and_false]
    exact Bool.false_ne_true
  refine call_meets F.slot_list_extend ⟨_, e, rfl⟩ F.entry_list_extend (F.args_list_extend_2 _ _)
    (list_extend_tup l its.toArray n b its2.toArray n2 dd sl hlong (by rw [List.size_toArray]; omega) (by omega)) ⟨e, e2, ?_⟩
  refine ⟨.non, _, I.lset (its' := its ++ its2) hH e (by simp) (r.append r2) ?_, rfl, q⟩
  rw [List.length_append]
  omega
section
variable {K : Fg}
def tupOf : D → Option (List D)
  | .tup ds => some ds
  | _ => none
theorem tupOf_eq {d : D} {ds : List D} (h : tupOf d = some ds) : d = .tup ds := by
  cases d <;> first | (cases h; rfl) | cases h
def extTM (i : Nat) (f : ME) : MS := fun env st => match env[i]? with
  | some (.own (.lst, ds)) => (f env st).bind fun p => (tupOf p.1).bind fun es => if ds.length + es.length ≤ sizeLine then some (.nx (env.set i (.own (.lst, ds ++ es))), p.2) else none
  | _ => none
theorem is_extT {te : TE} {f : ME} (i : Nat) (h : Im K te f) : ImS K (tDrop (tBM K "list" (rExtT K) (tVar i) (tCons te tNil))) (extTM i f) := fun dk H0 F0 F σ H env st fl st' g e E hd => by
  unfold extTM at e
  split at e
  · rename_i ds he
    obtain ⟨⟨d, s1⟩, e1, e⟩ := bnd e
    obtain ⟨es, e2, e⟩ := bnd e
    split at e
    · rename_i hz
      cases e
      obtain ⟨p, vs, h1, h2, h3, h4, h5, h6, h7⟩ := g.sl i _ he
      refine ⟨.ref p, join_eq h1, .inl ⟨rfl, vs, SqL.of h2⟩, ?_⟩
      refine h dk H0 F0 F σ H env st _ s1 g e1 _ fun v F1 H1 x1 g1 r1 => ?_
      have e3 : d = .tup es := tupOf_eq e2
      subst e3
      cases r1 with
      | tup k1 k2 =>
        refine ⟨p, _, vs, _, rfl, rfl, x1.h _ _ h2 h5 h6 (.inl h3.2), g1.wd.sub.sqT k1, by rw [h7.length, k2.length]; exact hz, ?_⟩
        exact hd F1 σ _ x1.f (g1.mut (ds' := (.lst, _)) he (join_eq h1) upd_same ((h7.mono x1.f).append k2))
    · cases e
  · cases e
end
end MD

set_option Elab.async false
set_option linter.all false
set_option maxRecDepth 100000
set_option maxHeartbeats 1000000
namespace MD
open PySem PySem.Spec PyProof.Rows L2
variable {ww : WW}
/-! ### d.update(e), dicts of the store with nested keys; d is not empty -/
def tNUpd [WW] (K : Fg) (td ty : TE) : TE := fun σ H Q => td σ H fun x H1 => ∃ c, x = .ref c ∧ (∃ zs, NkD K H1 c zs) ∧ ty σ H1 fun y H2 => ∃ o zs ms, y = .ref o ∧ c ≠ o ∧ NkD K H2 c zs ∧ NkD K H2 o ms ∧ zs ≠ [] ∧ zs.length + ms.length ≤ sizeLine ∧
  Q .non (upd H2 c (.ext (NkAt c (storedAllH zs ms))))
theorem storedAll_len (ms zs : Zs) : (storedAllH zs ms).length ≤ zs.length + ms.length := by
  induction ms generalizing zs with
  | nil => exact Nat.le_refl _
  | cons m ms ih =>
    have h1 := ih (storedH zs m.1 m.2.1 m.2.2)
    have h2 := stored_len zs m.1 m.2.1 m.2.2
    show (storedAllH (storedH zs m.1 m.2.1 m.2.2) ms).length ≤ _
    rw [List.length_cons]; omega
section
variable {X : Cx} {o e : Expr} {apos cpos : Pos} {td ty : TE}
theorem pe_nupd (hu : X.A.units + 64 < cLine) (hw : X.w = WW.w) (ho : PE X o td) (he : PE X e ty) (m : M1 X o "update" apos e cpos) : PE X (.Call (.Attribute o "update" apos) [e] [] cpos) (tNUpd X.K td ty) := by
  refine ⟨fun pins s σ H Q I h => ?_⟩
  refine wpAny_Call_method m.base m.few m.line PySem.F.plainAttrs_dict PySem.F.slot_dict_update PySem.F.type_dict_update (thn (ho.run pins s σ H _ I h) fun u s1 ⟨x, H1, I1, rx, c, ex, d, q1⟩ => ?_)
  subst ex
  obtain rfl : u = Value.ref c := rx
  obtain ⟨zs, dd⟩ := d
  obtain ⟨d1, d2, d3⟩ := dd.dict hw I1
  refine ⟨d1.typeIs, fun b q => ?_, ?_⟩
  · cases q
    obtain ⟨ob, _, _, h1, h2, _⟩ := d1
    exact ⟨ob, h1, h2.2.1⟩
  rw [m.trees]
  refine Calls.callWith_builtin rfl (Calls.evalArgs_plain (Calls.spliced_cons (thn (he.run pins s1 σ H1 _ I1 q1) fun iv s2 ⟨y, H2, I2, ry, o, zs2, ms, ey, hne, dd2, de, hz, hl, q2⟩ => Calls.spliced_nil ?_)))
  subst ey
  obtain rfl : iv = Value.ref o := ry
  obtain ⟨g1, g2, g3⟩ := dd2.dict hw I2
  obtain ⟨e1, e2, e3⟩ := de.dict hw I2
  refine call_update_dictH (knd := nestedKind X.prog X.w) (room_nk hu) hne e2 g1 e1 (.inl hz) hl fun h' dd' _ hsb => ⟨.non, _, ?_, rfl, q2⟩
  have he : ∃ q, h'.get? c = some q := let ⟨q, _, _, hq, _⟩ := dd'; ⟨q, hq⟩
  exact d_write I2 (by rw [dd2.h]; exact True.intro) hsb he (nk_ok g2 (by have := storedAll_len ms zs2; omega) hw dd')
end
def updF : List D → List D → List D → List D → List D × List D
  | ks, ds, m :: mk, x :: md => match nkOf m with
    | some k => updF (putNK ks m k) (putNV ks ds k x) mk md
    | none => (ks, ds)
  | ks, ds, _, _ => (ks, ds)
section
variable {K : Fg} {dk : Dk} {F : Fz} {H : Hp}
theorem put_obAt' {zs : Zs} {vs : List V} {ks ds : List D} {k : NestedKey} {b : Addr} {u : Value} {v : V} {d kd : D} (hn0 : (zs.map fun z => z.1).Nodup) (hd0 : ∀ z ∈ zs, z.1.depth ≤ 8) (h2 : Rps K dk F (zs.map fun z => V.ref z.2.1) ks) (h3 : ks.map nkOf = zs.map (fun z => some z.1)) (h4 : Vals vs (zs.map fun z => z.2.2)) (h5 : Rps K dk F vs ds)
    (hk : k.depth ≤ 8) (rk : Rp K dk F (.ref b) kd) (ek : nkOf kd = some k) (rv : RelV v u) (rd : Rp K dk F v d) :
    ∃ vs', ((storedH zs k b u).map fun z => z.1).Nodup ∧ (∀ z ∈ storedH zs k b u, z.1.depth ≤ 8) ∧ Rps K dk F ((storedH zs k b u).map fun z => V.ref z.2.1) (putNK ks kd k) ∧ (putNK ks kd k).map nkOf = (storedH zs k b u).map (fun z => some z.1) ∧ Vals vs' ((storedH zs k b u).map fun z => z.2.2) ∧ Rps K dk F vs' (putNV ks ds k d) := by
  have hh := has_atKey k h3
  have hn := stored_nodup hn0 k b u
  have hdp : ∀ z ∈ storedH zs k b u, z.1.depth ≤ 8 := fun z hz => by
    rcases stored_mem hz with ⟨y, hy, e1, _⟩ | ⟨e1, _⟩
    · rw [e1]; exact hd0 y hy
    · rw [e1]; exact hk
  unfold putNK putNV
  cases hs : hasN ks k with
  | true =>
    have e : storedH zs k b u = zs.map (putAt k u) := by
      unfold storedH
      rw [if_pos (by rw [hh, hs])]
    rw [e] at hn hdp ⊢
    rw [if_pos rfl, if_pos rfl]
    obtain ⟨vs', h6, h7⟩ := put_vals (k := k) rv rd h3 h4 h5
    refine ⟨vs', hn, hdp, by rw [put_refs]; exact h2, ?_, h6, h7⟩
    rw [h3, List.map_map]
    refine List.map_congr_left fun z _ => ?_
    show some z.1 = some (putAt k u z).1
    unfold putAt
    split <;> rfl
  | false =>
    have e : storedH zs k b u = zs ++ [(k, b, u)] := by
      unfold storedH
      rw [if_neg (by rw [hh, hs]; simp)]
    rw [e] at hn hdp ⊢
    rw [if_neg (by simp), if_neg (by simp)]
    exact ⟨_, hn, hdp, by rw [List.map_append]; exact h2.append (Rps.one rk), by rw [List.map_append, List.map_append, h3]; simp [ek], by rw [List.map_append]; exact h4.append (.cons rv .nil), h5.append (Rps.one rd)⟩
theorem updF_ok : ∀ {ms : Zs} {mk md : List D} {mv : List V}, Rps K dk F (ms.map fun z => V.ref z.2.1) mk → mk.map nkOf = ms.map (fun z => some z.1) → (∀ z ∈ ms, z.1.depth ≤ 8) → Vals mv (ms.map fun z => z.2.2) → Rps K dk F mv md →
    ∀ {zs : Zs} {vs : List V} {ks ds : List D}, (zs.map fun z => z.1).Nodup → (∀ z ∈ zs, z.1.depth ≤ 8) → Rps K dk F (zs.map fun z => V.ref z.2.1) ks → ks.map nkOf = zs.map (fun z => some z.1) → Vals vs (zs.map fun z => z.2.2) → Rps K dk F vs ds →
    ∃ vs', ((storedAllH zs ms).map fun z => z.1).Nodup ∧ (∀ z ∈ storedAllH zs ms, z.1.depth ≤ 8) ∧ Rps K dk F ((storedAllH zs ms).map fun z => V.ref z.2.1) (updF ks ds mk md).1 ∧ (updF ks ds mk md).1.map nkOf = (storedAllH zs ms).map (fun z => some z.1) ∧ Vals vs' ((storedAllH zs ms).map fun z => z.2.2) ∧ Rps K dk F vs' (updF ks ds mk md).2
  | [], mk, md, mv, a1, a2, a3, a4, a5, zs, vs, ks, ds, b1, b2, b3, b4, b5, b6 => by
    cases a1
    cases md <;> exact ⟨vs, b1, b2, b3, b4, b5, b6⟩
  | m :: ms, mk, md, mv, a1, a2, a3, a4, a5, zs, vs, ks, ds, b1, b2, b3, b4, b5, b6 => by
    cases a1 with
    | cons r1 r2 =>
      rename_i kd mk
      cases a4 with
      | cons v1 v2 =>
        cases a5 with
        | cons w1 w2 =>
          rename_i x md
          rw [List.map_cons, List.map_cons] at a2
          injection a2 with c1 c2
          obtain ⟨vs', d1, d2, d3, d4, d5, d6⟩ := put_obAt' b1 b2 b3 b4 b5 b6 (a3 m List.mem_cons_self) r1 c1 v1 w1
          have ih := updF_ok r2 c2 (fun z hz => a3 z (List.mem_cons_of_mem _ hz)) v2 w2 d1 d2 d3 d4 d5 d6
          have e : updF ks ds (kd :: mk) (x :: md) = updF (putNK ks kd m.1) (putNV ks ds m.1 x) mk md := by
            show (match nkOf kd with | some k => updF (putNK ks kd k) (putNV ks ds k x) mk md | none => (ks, ds)) = _
            rw [c1]
          rw [e]
          exact ih
def nupdM (fd fo : ME) : ME := fun env st => (fd env st).bind fun p => (refOf p.1).bind fun n => (nkdAt p.2 n).bind fun _ => (fo env p.2).bind fun q => (refOf q.1).bind fun m => (nkdAt q.2 n).bind fun z => (nkdAt q.2 m).bind fun y =>
  if n ≠ m ∧ z.1 ≠ [] ∧ z.1.length + y.1.length ≤ sizeLine then some (.non, q.2.put n (.nkd (updF z.1 z.2 y.1 y.2).1 (updF z.1 z.2 y.1 y.2).2)) else none
theorem im_nupd {td ty : TE} {fd fo : ME} (hd : Im K td fd) (ho : Im K ty fo) : Im K (tNUpd K td ty) (nupdM fd fo) := fun dk H0 F0 F σ H env st d st' g e Q q => by
  obtain ⟨⟨x, s1⟩, e1, e⟩ := bnd e
  obtain ⟨n, e3, e⟩ := bnd e
  obtain ⟨z0, e0, e⟩ := bnd e
  obtain ⟨⟨y, s2⟩, e2, e⟩ := bnd e
  obtain ⟨m, e4, e⟩ := bnd e
  obtain ⟨z, e5, e⟩ := bnd e
  obtain ⟨y0, e6, e⟩ := bnd e
  split at e
  · rename_i hz
    obtain ⟨hnm, hne, hl⟩ := hz
    cases e
    refine hd dk H0 F0 F σ H env st x s1 g e1 _ fun v F1 H1 x1 g1 r1 => ?_
    have hx : x = .ref n := refOf_eq e3
    subst hx
    obtain ⟨a, rfl, ha⟩ := r1.refn
    obtain ⟨zs0, vs0, dd0, _⟩ := g1.wd.nkdAt ha e0
    refine ⟨a, rfl, ⟨zs0, dd0⟩, ?_⟩
    refine ho dk H0 F0 F1 σ H1 env s1 y s2 g1 e2 _ fun u F2 H2 x2 g2 r2 => ?_
    have hy : y = .ref m := refOf_eq e4
    subst hy
    obtain ⟨b, rfl, hb⟩ := r2.refn
    have ha2 := x2.f.at ha
    obtain ⟨zs, vs, dd, k2, k3, k4, k5⟩ := g2.wd.nkdAt ha2 e5
    obtain ⟨ms, mv, de, j2, j3, j4, j5⟩ := g2.wd.nkdAt hb e6
    have hab : a ≠ b := fun z => hnm ((List.getElem?_inj (List.getElem?_eq_some_iff.mp ha2).1 g2.wd.nd).mp (by rw [ha2, hb, z]))
    have l1 : zs.length = z.1.length := by
      have := congrArg List.length k3
      simpa using this.symm
    have l2 : ms.length = y0.1.length := by
      have := congrArg List.length j3
      simpa using this.symm
    obtain ⟨vs', d1, d2, d3, d4, d5, d6⟩ := updF_ok j2 j3 (fun z hz => (de.k z hz).2) j4 j5 dd.n (fun z hz => (dd.k z hz).2) k2 k3 k4 k5
    refine ⟨b, zs, ms, rfl, hab, dd, de, fun h => hne (List.length_eq_zero_iff.mp (by rw [← l1, h]; rfl)), by rw [l1, l2]; exact hl, ?_⟩
    exact q .non F2 _ ((x1.trans x2).put ha2 dd.h (by rintro ⟨_, _, z⟩; cases z) (by rintro ⟨_, _, z⟩; cases z)) (g2.put ha2 dd.h (by rintro ⟨_, _, z⟩; cases z) (.nkd upd_same d3 d4 d5 d6 d1 d2)) .non
  · cases e
end
end MD

set_option Elab.async false
set_option linter.all false
set_option maxRecDepth 100000
set_option maxHeartbeats 1000000
namespace MD
open PySem PySem.Spec PyProof.Rows L2
variable {ww : WW}
/-! ### d.get(k, x), d a dict of the store with nested keys -/
def tNGet2 [WW] (K : Fg) (td ty tz : TE) : TE := fun σ H Q => td σ H fun x H1 => ∃ c, x = .ref c ∧ (∃ zs, NkD K H1 c zs) ∧ ty σ H1 fun y H2 => tz σ H2 fun z H3 => ∃ b k zs v, y = .ref b ∧ Nk K H3 k (.ref b) ∧ k.depth ≤ 8 ∧ NkD K H3 c zs ∧
  (∀ u, RelV z u → RelV v (((atKey zs k).map (·.2)).getD u)) ∧ Q v H3
section
variable {X : Cx} {o e f : Expr} {apos cpos : Pos} {td ty tz : TE}
theorem pe_nget2 (hu : X.A.units + 64 < cLine) (hw : X.w = WW.w) (ho : PE X o td) (he : PE X e ty) (hf : PE X f tz) (m : M2 X o "get" apos e f cpos) : PE X (.Call (.Attribute o "get" apos) [e, f] [] cpos) (tNGet2 X.K td ty tz) := by
  refine ⟨fun pins s σ H Q I h => ?_⟩
  refine wpAny_Call_method m.base m.few m.line PySem.F.plainAttrs_dict PySem.F.slot_dict_get PySem.F.type_dict_get (thn (ho.run pins s σ H _ I h) fun u s1 ⟨x, H1, I1, rx, c, ex, d, q1⟩ => ?_)
  subst ex
  obtain rfl : u = Value.ref c := rx
  obtain ⟨zs, dd⟩ := d
  obtain ⟨d1, d2, d3⟩ := dd.dict hw I1
  refine ⟨d1.typeIs, fun b q => ?_, ?_⟩
  · cases q
    obtain ⟨ob, _, _, h1, h2, _⟩ := d1
    exact ⟨ob, h1, h2.2.1⟩
  rw [m.trees]
  refine Calls.callWith_builtin rfl (Calls.evalArgs_plain (Calls.spliced_cons (thn (he.run pins s1 σ H1 _ I1 q1) fun iv s2 ⟨y, H2, I2, ry, q2⟩ =>
    Calls.spliced_cons (thn (hf.run pins s2 σ H2 _ I2 q2) fun fv s3 ⟨z, H3, I3, rz, b, k, zs2, v, ey, hk, hd, dd2, rv, q3⟩ => Calls.spliced_nil ?_))))
  subst ey
  obtain rfl : iv = Value.ref b := ry
  obtain ⟨g1, g2, g3⟩ := dd2.dict hw I3
  exact call_meetsIn PySem.F.slot_dict_get g1.typeIs PySem.F.entry_dict_get (PySem.F.args_dict_get_3 _ _ _) (meetsH_dict_get_default (nestedKind X.prog X.w) c b g2 fv) ⟨room_nk hu, k, zs2, ⟨Nk.is I3 hk rfl, hd⟩, g1, ⟨v, H3, I3.tok _, rv fv rz, q3⟩⟩
end
section
variable {K : Fg}
def nget2M (fd fk fx : ME) : ME := fun env st => (fd env st).bind fun p => (refOf p.1).bind fun n => (nkdAt p.2 n).bind fun _ => (fk env p.2).bind fun q => (fx env q.2).bind fun r => (nkdAt r.2 n).bind fun z => (nkT q.1).bind fun k => if k.depth ≤ 8 then some ((getN z.1 z.2 k).getD r.1, r.2) else none
theorem im_nget2 {td ty tz : TE} {fd fk fx : ME} (hd : Im K td fd) (hk : Im K ty fk) (hx : Im K tz fx) : Im K (tNGet2 K td ty tz) (nget2M fd fk fx) := fun dk H0 F0 F σ H env st d st' g e Q q => by
  obtain ⟨⟨x, s1⟩, e1, e⟩ := bnd e
  obtain ⟨n, e3, e⟩ := bnd e
  obtain ⟨z0, e0, e⟩ := bnd e
  obtain ⟨⟨y, s2⟩, e2, e⟩ := bnd e
  obtain ⟨⟨w0, s3⟩, e7, e⟩ := bnd e
  obtain ⟨z, e4, e⟩ := bnd e
  obtain ⟨k, e5, e⟩ := bnd e
  split at e
  · rename_i hz
    cases e
    refine hd dk H0 F0 F σ H env st x s1 g e1 _ fun v F1 H1 x1 g1 r1 => ?_
    have hxx : x = .ref n := refOf_eq e3
    subst hxx
    obtain ⟨a, rfl, ha⟩ := r1.refn
    obtain ⟨zs0, vs0, dd0, _⟩ := g1.wd.nkdAt ha e0
    refine ⟨a, rfl, ⟨zs0, dd0⟩, ?_⟩
    refine hk dk H0 F0 F1 σ H1 env s1 y s2 g1 e2 _ fun u F2 H2 x2 g2 r2 => ?_
    refine hx dk H0 F0 F2 σ H2 env s2 w0 s3 g2 e7 _ fun w F3 H3 x3 g3 r3 => ?_
    obtain ⟨zs, vs, dd, h2, h3, h4, h5⟩ := g3.wd.nkdAt ((x2.f.trans x3.f).at ha) e4
    obtain ⟨b, rfl, nk⟩ := (r2.mono x3.f).nkT g3.wd.sub e5
    obtain ⟨i1, i2⟩ := getN_at k h3 h4 h5
    cases hg : getN z.1 z.2 k with
    | some d1 =>
      rw [hg] at q
      obtain ⟨p, v1, k1, k2, k3⟩ := i1 d1 hg
      refine ⟨b, k, zs, v1, rfl, nk, hz, dd, fun u0 _ => ?_, ?_⟩
      · rw [k1]; exact k2
      · exact q v1 F3 H3 (x1.trans (x2.trans x3)) g3 k3
    | none =>
      rw [hg] at q
      refine ⟨b, k, zs, w, rfl, nk, hz, dd, fun u0 hu0 => ?_, ?_⟩
      · rw [i2 hg]; exact hu0
      · exact q w F3 H3 (x1.trans (x2.trans x3)) g3 r3
  · cases e
end
end MD

set_option Elab.async false
set_option linter.all false
set_option maxRecDepth 100000
set_option maxHeartbeats 1000000
namespace MD
open PySem PySem.Spec PySem.Calls PyProof.Rows PyProof.V PySem.W L2
variable {ww : WW}
/-! ### d == {}, d a dict of the store with nested keys -/
section
variable {prog : Program} {w : World} {K : Type} [DecidableEq K] {knd : HeapKind prog w K} {A : Around} {E : Value → Shared → Prop} {s : Shared} {a b : Addr} {za : List (K × Addr × Value)}
theorem same_em {nm : String} {Q : Bool → Shared → Prop} (ha : (a == sysModules) = false) (hb : (b == sysModules) = false) (da : s.heap.DictOfH knd a za) (db : s.heap.DictOfH knd b []) (h : Q za.isEmpty s) :
    wpAny (model prog w) A (Builtin.Dict.samePairs nm a b) Q E s := by
  obtain ⟨oa, es, ep, hoa, _, hda, hka, _, _⟩ := da
  obtain ⟨ob, es', ep', hob, _, hdb, hkb, _, _⟩ := db
  have hla : es.size = za.length := size_of_entries hka
  have hlb : es'.size = 0 := by rw [size_of_entries hkb]; rfl
  unfold Builtin.Dict.samePairs Builtin.Dict.showsAll
  rw [if_neg (show ¬ (a == sysModules) = true by rw [ha]; exact Bool.false_ne_true), if_neg (show ¬ (b == sysModules) = true by rw [hb]; exact Bool.false_ne_true)]
  refine wpAny_bind (wpAny_pure (wpAny_bind (wpAny_pure ?_)))
  refine wpAny_bind (wpAny_dictEntries hoa hda ?_)
  dsimp only
  refine wpAny_bind (wpAny_dictEntries hob hdb ?_)
  cases za with
  | nil =>
    have h0 : es.size = 0 := by rw [hla]; rfl
    rw [if_neg (by rw [h0, hlb]; simp)]
    refine wpAny_bind (wpAny_dictEpoch hoa hda ?_)
    refine wpAny_bind ?_
    rw [Std.Legacy.Range.forIn_eq_forIn_range']
    simp only [Std.Legacy.Range.size, Nat.sub_zero, Nat.add_sub_cancel, Nat.div_one]
    rw [h0]
    refine wpAny_pure ?_
    exact wpAny_pure h
  | cons z za =>
    rw [if_pos (by rw [hla, hlb]; simp)]
    exact wpAny_bind (wpAny_rule (wpAny_pure h))
theorem rc_em (ha : (a == sysModules) = false) (hb : (b == sysModules) = false)
    (da : s.heap.DictOfH knd a za) (db : s.heap.DictOfH knd b []) (hu : A.units < cLine) (E Q : Value → Shared → Prop) (h : Q (.bool za.isEmpty) s) : wpAny (model prog w) A (richCompare .Eq (.ref a) (.ref b)) Q E s := by
  refine wpAny_richCompare_same_room (op := .Eq) da.typeIs db.typeIs PySem.F.slot_dict_eq (wpAny_call_entry PySem.F.slot_dict_eq da.typeIs PySem.F.entry_dict_eq ?_ (PySem.F.args_dict_eq_2 _ _)) hu
  show wpAny _ _ (Builtin.Dict.dictSlotArgs "__eq__" ⟨[.ref a, .ref b], []⟩ >>= _) _ _ s
  refine wpAny_bind ?_
  unfold Builtin.Dict.dictSlotArgs
  refine wpAny_bind (wpAny_notOrdered_dict da.typeIs ?_)
  show wpAny _ _ (pure (Value.ref a, Value.ref b)) _ _ s
  refine wpAny_pure ?_
  refine wpAny_bind (wpAny_isInstance (T := "dict") db.typeIs PySem.F.sub_dict_dict ?_)
  simp only [Bool.not_true, Bool.false_eq_true, if_false]
  refine wpAny_bind (wpAny_pure (wpAny_bind (wpAny_pure ?_)))
  refine wpAny_bind (same_em ha hb da db ?_)
  refine wpAny_pure ⟨_, rfl, ?_, ?_⟩
  · exact fun x => nomatch x
  · simpa using h
end
def rEm [WW] (K : Fg) : R2 := fun x y H Q => ∃ a b zs, x = .ref a ∧ y = .ref b ∧ NkD K H a zs ∧ NkD K H b [] ∧ Q (.bl zs.isEmpty) H
theorem op_em {X : Cx} (hu : X.A.units + 64 < cLine) (hw : X.w = WW.w) : OpR X (compareOp .Eq) (rEm X.K) := by
  intro pins s σ H x y v u Q I rx ry h
  obtain ⟨a, b, zs, rfl, rfl, da, db, q⟩ := h
  obtain rfl : v = Value.ref a := rx
  obtain rfl : u = Value.ref b := ry
  obtain ⟨d1, d2, d3⟩ := da.dict hw I
  obtain ⟨e1, e2, e3⟩ := db.dict hw I
  exact rc_em d2 e2 d1 e1 (by omega) _ _ ⟨.bl zs.isEmpty, H, I, rfl, q⟩
section
variable {K : Fg}
def nemM (fd : ME) : ME := fun env st => (fd env st).bind fun p => (refOf p.1).bind fun n => (nkdAt p.2 n).map fun z => (.bl z.1.isEmpty, p.2)
theorem im_nem {td : TE} {fd : ME} (hd : Im K td fd) : Im K (tOp (rEm K) td tNewN) (nemM fd) := fun dk H0 F0 F σ H env st d st' g e Q q => by
  obtain ⟨⟨x, s1⟩, e1, e⟩ := bnd e
  obtain ⟨n, e3, e⟩ := bnd e
  obtain ⟨z, e4, e⟩ := mpd e
  cases e
  refine hd dk H0 F0 F σ H env st x s1 g e1 _ fun v F1 H1 x1 g1 r1 => ?_
  have hx : x = .ref n := refOf_eq e3
  subst hx
  obtain ⟨a, rfl, ha⟩ := r1.refn
  intro p hp
  obtain ⟨zs, vs, dd, h2, h3, h4, h5⟩ := g1.wd.nkdAt ha e4
  have px : Px F1 H1 F1 (upd H1 p (.ext (NkAt p []))) := Px.lay g1.wd.sub hp
  obtain ⟨zs', vs', dd', h2', h3', h4', h5'⟩ := (g1.px px).wd.nkdAt ha e4
  have hl : zs'.isEmpty = z.1.isEmpty := by
    have := congrArg List.length h3'
    rw [List.length_map, List.length_map] at this
    rw [Bool.eq_iff_iff, List.isEmpty_iff_length_eq_zero, List.isEmpty_iff_length_eq_zero, this]
  refine ⟨a, p, zs', rfl, rfl, dd', ⟨upd_same, fun z hz => absurd hz (by simp), by simp⟩, ?_⟩
  rw [hl]
  exact q _ F1 _ (x1.trans px.ext) (g1.px px) (.bl _)
end
/-! ### a locked dict: its keys walked, d[k] -/
def nklAt (st : S) (n : Nat) : Option (List D × List D) := match st.ob[n]? with
  | some (.nkl ks ds) => some (ks, ds)
  | _ => none
theorem nklAt_eq {st : S} {n : Nat} {q : List D × List D} (h : nklAt st n = some q) : st.ob[n]? = some (.nkl q.1 q.2) := by
  unfold nklAt at h
  split at h
  · rename_i e; cases h; exact e
  · cases h
structure NkL [WW] (K : Fg) (H : Hp) (c : Addr) (od : Obj) (zs : Zs) : Prop where
  h : H c = some (.frz od (.ext (NkAt c zs)))
  k : ∀ z ∈ zs, Nk K H z.1 (.ref z.2.1) ∧ z.1.depth ≤ 8
  n : (zs.map fun z => z.1).Nodup
theorem NkL.dict {X : Cx} {pins : List (Addr × Obj)} {σ : List (Option V)} {H : Hp} {s : Shared} {c : Addr} {od : Obj} {zs : Zs} (hw : X.w = WW.w) (d : NkL X.K H c od zs) (I : L2.Inv X pins σ H s) : s.heap.DictOfH (nestedKind X.prog X.w) c zs := by
  obtain ⟨hd, ⟨h1, h2, o, es, ep, ho, hx, hdt, he⟩, _, _⟩ := I.hok c _ d.h
  exact ⟨o, es, ep, ho, hx, hdt, by rw [hw]; exact he, fun z hz => ⟨Nk.is I (d.k z hz).1 rfl, (d.k z hz).2⟩, d.n⟩
def tNGetL [WW] (K : Fg) (td ty : TE) : TE := fun σ H Q => td σ H fun x H1 => ty σ H1 fun y H2 => ∃ b c od k zs p v, x = .ref c ∧ y = .ref b ∧ Nk K H2 k (.ref b) ∧ k.depth ≤ 8 ∧ NkL K H2 c od zs ∧ atKey zs k = some p ∧ RelV v p.2 ∧ Q v H2
theorem pe_ngetL {X : Cx} {o i : Expr} {pos : Pos} {td ty : TE} (hu : X.A.units + 64 < cLine) (hw : X.w = WW.w) (ho : PE X o td) (hi : PE X i ty) (hs : NoSl i := by intro _ _; rfl) : PE X (.Subscript o i pos) (tNGetL X.K td ty) := by
  refine ⟨fun pins s σ H Q I h => ?_⟩
  refine subD_of PySem.F.slot_dict_getitem.lookup hs (thn (ho.run pins s σ H _ I h) fun u s1 ⟨x, H1, I1, rx, q1⟩ => thn (hi.run pins s1 σ H1 _ I1 q1) fun iv s2 ⟨y, H2, I2, ry, b, c, od, k, zs, p, v, ex, ey, hk, hd, dd, hp, rv, q2⟩ => ?_)
  subst ex ey
  obtain rfl : u = Value.ref c := rx
  obtain rfl : iv = Value.ref b := ry
  have d1 := dd.dict hw I2
  exact ⟨d1.typeIs, wpAny_getItem_heap (room_nk hu) ⟨Nk.is I2 hk rfl, hd⟩ d1 hp ⟨v, H2, I2.tok _, rv, q2⟩⟩
section
variable {K : Fg} {dk : Dk} {F F' F0 : Fz} {H H' H0 : Hp} {σ σ' : L2.St} {env env' : Sg} {st st' st'' : S}
theorem Wd.nklAt {n : Nat} {a : Addr} {q : List D × List D} (w : Wd K dk F H st) (hn : F.mu[n]? = some a) (h : MD.nklAt st n = some q) :
    ∃ (od : Obj) (zs : Zs) (vs : List V), NkL K H a od zs ∧ Rps K dk F (zs.map fun z => V.ref z.2.1) q.1 ∧ q.1.map nkOf = zs.map (fun z => some z.1) ∧ Vals vs (zs.map fun z => z.2.2) ∧ Rps K dk F vs q.2 := by
  obtain ⟨_, o⟩ := w.ob n a _ hn (nklAt_eq h)
  cases o with
  | nkl h1 h2 h3 h4 h5 h6 h7 => exact ⟨_, _, _, ⟨h1, fun z hz => ⟨nk_keys w.sub h2 h3 z hz, h7 z hz⟩, h6⟩, h2, h3, h4, h5⟩
def ngetL (fd fk : ME) : ME := fun env st => (fd env st).bind fun p => (fk env p.2).bind fun q => (refOf p.1).bind fun n => (nklAt q.2 n).bind fun z => (nkT q.1).bind fun k => if k.depth ≤ 8 then (getN z.1 z.2 k).map fun d => (d, q.2) else none
theorem im_ngetL {td ty : TE} {fd fk : ME} (hd : Im K td fd) (hk : Im K ty fk) : Im K (tNGetL K td ty) (ngetL fd fk) := fun dk H0 F0 F σ H env st d st' g e Q q => by
  obtain ⟨⟨x, s1⟩, e1, e⟩ := bnd e
  obtain ⟨⟨y, s2⟩, e2, e⟩ := bnd e
  obtain ⟨n, e3, e⟩ := bnd e
  obtain ⟨z, e4, e⟩ := bnd e
  obtain ⟨k, e5, e⟩ := bnd e
  split at e
  · rename_i hz
    obtain ⟨d', e6, e⟩ := mpd e
    cases e
    refine hd dk H0 F0 F σ H env st x s1 g e1 _ fun v F1 H1 x1 g1 r1 => ?_
    refine hk dk H0 F0 F1 σ H1 env s1 y s2 g1 e2 _ fun u F2 H2 x2 g2 r2 => ?_
    have hx : x = .ref n := refOf_eq e3
    subst hx
    obtain ⟨a, rfl, ha⟩ := r1.refn
    obtain ⟨od, zs, vs, dd, h2, h3, h4, h5⟩ := g2.wd.nklAt (x2.f.at ha) e4
    obtain ⟨b, rfl, nk⟩ := r2.nkT g2.wd.sub e5
    obtain ⟨p, w, k1, k2, k3⟩ := (getN_at k h3 h4 h5).1 _ e6
    exact ⟨b, a, od, k, zs, p, w, rfl, rfl, nk, hz, dd, k1, k2, q w F2 H2 (x1.trans x2) g2 k3⟩
  · cases e
/-- the keys of a locked dict -/
def keysL (f : ME) : MI := fun env st => (f env st).bind fun p => (refOf p.1).bind fun n => (nklAt p.2 n).map fun z => (z.1, p.2)
theorem iix_keysL {te : TE} {f : ME} (h : Im K te f) : ImIX K (iKeysN te) (keysL f) := fun dk H0 F0 F σ H env st ds st' g e R q => by
  obtain ⟨⟨x, s1⟩, e1, e⟩ := bnd e
  obtain ⟨n, e3, e⟩ := bnd e
  obtain ⟨z, e4, e⟩ := mpd e
  cases e
  refine h dk H0 F0 F σ H env st x s1 g e1 _ fun v F1 H1 x1 g1 r1 => ?_
  have hx : x = .ref n := refOf_eq e3
  subst hx
  obtain ⟨a, rfl, ha⟩ := r1.refn
  obtain ⟨od, zs, vs, dd, h2, h3, h4, h5⟩ := g1.wd.nklAt ha e4
  have hm := List.mem_of_getElem? ha
  obtain ⟨n1, n2⟩ := g1.wd.ndk hm
  refine ⟨a, od, zs, rfl, dd.h, q _ F1 H1 x1 g1 fun F3 H3 st3 le x3 w3 i => ?_⟩
  have hs : H3 a = some (.frz od (.ext (NkAt a zs))) := x3.h _ _ dd.h n1 n2 (.inr ⟨_, _, rfl⟩)
  have hlen : zs.length = z.1.length := by
    have := congrArg List.length h3
    simpa using this.symm
  refine ⟨fun d hd => ?_, fun h => ⟨hs, by rw [hlen]; exact h⟩⟩
  obtain ⟨v, h1, h2⟩ := (h2.mono le).get hd
  have hi : i < zs.length := by
    rw [hlen]
    exact (List.getElem?_eq_some_iff.mp hd).1
  refine ⟨⟨hs, hi⟩, fun y H4 hy => ?_⟩
  obtain ⟨rfl, zz, hz, rfl⟩ := hy
  rw [List.getElem?_map, hz] at h1
  cases h1
  exact ⟨F3, Px.refl w3.sub, h2⟩
/-- [x for p in d if ..], d a dict of the store with nested keys -/
def compN (f : ME) (t : MG) (c : MT) (fv : ME) (vs : List Nat) : MA := fun env st => (f env st).bind fun p => match p.1 with
  | .ref n => match st.ob[n]? with
    | some (.nkd _ _) => (compM (keysL f) t c fv vs env (lckN st n)).map fun r => (r.1, unlN r.2 n)
    | _ => none
  | _ => none
theorem if_compN {te : TE} {f : ME} {g : TG} {tt : TT} {tv : TE} {vs : List Nat} {t : MG} {c : MT} {fv : ME} {is : List Nat} (hp : PthN K te f) (hq : Im K te f) (hg : ImG K g t is) (ht : ImT K tt c) (he : Im K tv fv) (hv : ∀ i ∈ is, i ∈ vs) :
    ImF K (tLockE (tLc (iKeysN te) g tt tv vs)) (compN f t c fv vs) := fun dk H0 F0 F σ H env st out st' gd e Q qq => by
  obtain ⟨⟨d, s1⟩, e1, e⟩ := bnd e
  obtain ⟨es, v, r, q2⟩ := hp dk H0 F0 F σ H env st d s1 gd e1
  dsimp only at e
  split at e
  · rename_i n
    cases r with
    | @ref a _ hn =>
      have hm := List.mem_of_getElem? hn
      obtain ⟨n1, n2⟩ := gd.wd.ndk hm
      have no : ∀ (i : Nat) (ds : Own), env[i]? = some (.own ds) → σ[i]? ≠ some (some (.ref a)) := fun i ds hi hs => by
        obtain ⟨p, _, h1, _, h3, _⟩ := gd.sl i _ hi
        rw [hs] at h1
        cases h1
        exact h3.2 hm
      split at e
      · rename_i ks ds ho
        obtain ⟨⟨o2, s2⟩, e2, e⟩ := mpd e
        cases e
        obtain ⟨_, ob⟩ := gd.wd.ob n a _ hn ho
        cases ob with
        | @nkd zs us _ _ hH k q vv rr nn dd =>
          refine ⟨a, _, hH, trivial, fun od => ?_⟩
          have wl : Wd K dk F (L2.upd H a (.frz od (.ext (NkAt a zs)))) (lckN st n) := by
            unfold lckN
            rw [ho]
            exact gd.wd.put hn (.nkl upd_same k q vv rr nn dd)
          have gl := gd.lock (od := od) no wl
          refine if_compX (iix_keysL hq) hg ht he hv dk _ F F σ _ env (lckN st n) _ s2 gl e2 _ fun p ws F' H' x g' hp' fp' hl' r' => ?_
          have hk : H' a = some (.frz od (.ext (NkAt a zs))) := x.h _ _ upd_same n1 n2 (.inr ⟨_, _, rfl⟩)
          have np : p ≠ a := fun z => by rw [z, upd_same] at hp'; cases hp'
          have hpH : H p = none := by rw [upd_ne np] at hp'; exact hp'
          refine ⟨hk, qq p ws F' _ ((Ext.refl F H).unlock hH nfx x) (gd.unlock hH nfx g' (g'.wd.unlNS (x.f.at hn) hk)) hpH fp' (by rw [upd_ne np]; exact hl') r'⟩
      · cases e
  · cases e
end
end MD

set_option Elab.async false
set_option linter.all false
set_option maxRecDepth 100000
set_option maxHeartbeats 1000000
namespace MD
open PySem PySem.Spec PyProof.Rows L2
variable {ww : WW}
/-! ### x in a list of data of any depth -/
theorem units65 {k : Nat} {A : Around} (r : Room k A) : A.units + 65 < cLine := by
  have := r.un
  omega
def inDD (neg : Bool) : D → D → Option D
  | x, .lst ds => if okD x && okD (.lst ds) then some (.bl (if neg = true then !((pyAll ds).any fun z => PyData.eqv z x.py) else (pyAll ds).any fun z => PyData.eqv z x.py)) else none
  | _, _ => none
section
variable {K : Fg}
theorem ro_inDD : RO K (rInD K) (inDD false) := by
  intro dk F H st x y d e z w rx ry hz Q q
  unfold inDD at hz
  split at hz
  · split at hz
    · rename_i ho
      cases hz
      rw [Bool.and_eq_true, okD, okD, Bool.and_eq_true, Bool.and_eq_true] at ho
      exact ⟨_, _, rx.dp w.sub ho.1.1, ry.dp w.sub ho.2.1, ho.1.2, ho.2.2, q _ F H (Px.refl w.sub) (.bl _)⟩
    · cases hz
  · cases hz
theorem ro_notInDD : RO K (rNotInD K) (inDD true) := by
  intro dk F H st x y d e z w rx ry hz Q q
  unfold inDD at hz
  split at hz
  · split at hz
    · rename_i ho
      cases hz
      rw [Bool.and_eq_true, okD, okD, Bool.and_eq_true, Bool.and_eq_true] at ho
      exact ⟨_, _, rx.dp w.sub ho.1.1, ry.dp w.sub ho.2.1, ho.1.2, ho.2.2, q _ F H (Px.refl w.sub) (.bl _)⟩
    · cases hz
  · cases hz
end
end MD

set_option Elab.async false
set_option linter.all false
set_option maxRecDepth 100000
set_option maxHeartbeats 1000000
namespace MD
open PySem PySem.Spec PyProof.Rows L2
variable {ww : WW}
section
variable {K : Fg}
/-! ### a statement that is never come to -/
def tStuck : TS := fun _ _ _ => False
theorem ps_stuck {X : Cx} {x : Stmt} : PS X x tStuck := ⟨fun _ _ _ _ _ _ h => h.elim⟩
def stkM : MS := fun _ _ => none
theorem is_stuck : ImS K tStuck stkM := fun dk H0 F0 F σ H env st fl st' g e E hd => by cases e
/-! ### f-strings -/
def fmtM (f : ME) : ME := fun env st => (f env st).bind fun p => match p.1 with
  | .str y => if y.length ≤ sizeLine then some (.str y, p.2) else none
  | .int i => if i.natAbs.log2 < 1920 then some (.str (toString i), p.2) else none
  | _ => none
theorem im_fmt {te : TE} {f : ME} (h : Im K te f) : Im K (tFmt te) (fmtM f) := fun dk H0 F0 F σ H env st d st' g e Q q => by
  obtain ⟨⟨x, s1⟩, e1, e⟩ := bnd e
  refine h dk H0 F0 F σ H env st x s1 g e1 _ fun v F1 H1 x1 g1 r1 => ?_
  dsimp only at e
  split at e
  · split at e
    · rename_i hz
      cases e
      cases r1
      exact .inl ⟨_, rfl, hz, q _ F1 H1 x1 g1 (.str _)⟩
    · cases e
  · split at e
    · rename_i hz
      cases e
      cases r1
      exact .inr ⟨_, rfl, hz, q _ F1 H1 x1 g1 (.str _)⟩
    · cases e
  · cases e
def jsF : List ME → Str → Sg → S → Option (Str × S)
  | [], acc, _, st => some (acc, st)
  | f :: fs, acc, env, st => (f env st).bind fun p => match p.1 with
    | .str y => if (acc ++ y).length ≤ sizeLine then jsF fs (acc ++ y) env p.2 else none
    | _ => none
inductive ImJ [WW] (K : Fg) : List TE → List ME → Prop
  | nil : ImJ K [] []
  | cons {t : TE} {ts : List TE} {f : ME} {fs : List ME} : Im K t f → ImJ K ts fs → ImJ K (t :: ts) (f :: fs)
def joinedM (fs : List ME) : ME := fun env st => (jsF fs Str.empty env st).map fun p => (.str p.1, p.2)
theorem imJ_run {ts : List TE} {fs : List ME} (h : ImJ K ts fs) : ∀ (acc : Str) (dk : Dk) (H0 : Hp) (F0 F : Fz) (σ : L2.St) (H : Hp) (env : Sg) (st : S) (out : Str) (st' : S), Good K dk H0 F0 F σ H env st → jsF fs acc env st = some (out, st') →
    ∀ Q : Str → Hp → Prop, (∀ F' H', Ext dk F H F' H' → Good K dk H0 F0 F' σ H' env st' → Q out H') → tJs ts acc σ H Q := by
  induction h with
  | nil =>
    intro acc dk H0 F0 F σ H env st out st' g e Q q
    cases e
    exact q F H (Ext.refl F H) g
  | @cons t ts f fs h1 _ ih =>
    intro acc dk H0 F0 F σ H env st out st' g e Q q
    obtain ⟨⟨x, s1⟩, e1, e⟩ := bnd e
    refine h1 dk H0 F0 F σ H env st x s1 g e1 _ fun v F1 H1 x1 g1 r1 => ?_
    dsimp only at e
    split at e
    · split at e
      · rename_i hz
        cases r1
        exact ⟨_, rfl, hz, ih _ dk H0 F0 F1 σ H1 env s1 out st' g1 e Q fun F' H' x' g' => q F' H' (x1.trans x') g'⟩
      · cases e
    · cases e
theorem im_joined {ts : List TE} {fs : List ME} (h : ImJ K ts fs) : Im K (fun σ H Q => tJs ts Str.empty σ H fun out H1 => Q (.str out) H1) (joinedM fs) := fun dk H0 F0 F σ H env st d st' g e Q q => by
  obtain ⟨⟨out, s1⟩, e1, e⟩ := mpd e
  cases e
  exact imJ_run h Str.empty dk H0 F0 F σ H env st out _ g e1 _ fun F' H' x' g' => q _ F' H' x' g' (.str out)
/-! ### text.split(text) -/
def splM (f h : ME) : MA := fun env st => (f env st).bind fun p => (h env p.2).bind fun q => match p.1, q.1 with
  | .str a, .str b => if (b.length == 0) = false ∧ a.length + 2 ≤ sizeLine then some ((Txt.split a b).map D.str, q.2) else none
  | _, _ => none
theorem rps_strs {dk : Dk} {F : Fz} : ∀ l : List Str, Rps K dk F (l.map V.str) (l.map D.str)
  | [] => .nil
  | y :: l => .cons (.str y) (rps_strs l)
theorem if_split {to te : TE} {f h : ME} (hf : Im K to f) (hh : Im K te h) : ImF K (tM1 (fun x xs H Q => ∃ a b, x = .str a ∧ xs = [.str b] ∧ (b.length == 0) = false ∧ a.length + 2 ≤ sizeLine ∧ rNewStrs (Txt.split a b) H Q) to te) (splM f h) := fun dk H0 F0 F σ H env st ds st' g e Q q => by
  obtain ⟨⟨x, s1⟩, e1, e⟩ := bnd e
  obtain ⟨⟨y, s2⟩, e2, e⟩ := bnd e
  dsimp only at e
  split at e
  · split at e
    · rename_i hz
      cases e
      refine hf dk H0 F0 F σ H env st _ s1 g e1 _ fun v F1 H1 x1 g1 r1 => ?_
      cases r1
      refine ⟨⟨_, rfl⟩, ?_⟩
      refine hh dk H0 F0 F1 σ H1 env s1 _ _ g1 e2 _ fun u F2 H2 x2 g2 r2 => ?_
      cases r2
      refine ⟨_, _, rfl, rfl, hz.1, hz.2, fun p hp => ?_⟩
      exact q p _ F2 _ ((x1.trans x2).trans (Px.lay g2.wd.sub hp).ext) (g2.px (Px.lay g2.wd.sub hp)) ((x1.trans x2).back hp) (g2.wd.out hp) upd_same (rps_strs _)
    · cases e
  · cases e
/-! ### text.startswith(text), int(text) -/
def startsM : D → List D → Option D
  | .str a, [.str b] => some (.bl (Txt.startswith a b))
  | _, _ => none
theorem rm_starts : RM K (fun x xs H Q => ∃ a b, x = .str a ∧ xs = [.str b] ∧ Q (.bl (Txt.startswith a b)) H) startsM := by
  intro dk F H st x d vs ds z w rx rs hz Q q
  unfold startsM at hz
  split at hz
  · cases hz
    obtain ⟨v, rfl, r⟩ := rs.one
    cases r.str
    exact ⟨_, _, rx.str, rfl, q _ F H (Px.refl w.sub) (.bl _)⟩
  · cases hz
def intSM : List D → Option D
  | [.str a] => if a.length ≤ 640 then (PySem.intText? a).map D.int else none
  | _ => none
theorem rc_intS : RC K (fun xs H Q => ∃ a n, xs = [.str a] ∧ PySem.intText? a = some n ∧ a.length ≤ 640 ∧ Q (.int n) H) intSM := by
  intro dk F H st vs ds z w rx hz Q q
  unfold intSM at hz
  split at hz
  · split at hz
    · rename_i ho
      obtain ⟨n, hn, rfl⟩ := mpd hz
      obtain ⟨v, rfl, r⟩ := rx.one
      cases r.str
      exact ⟨_, n, rfl, hn, ho, q _ F H (Px.refl w.sub) (.int _)⟩
    · cases hz
  · cases hz
end
section
variable {K : Fg}
/-- list + list, a new list -/
theorem rof_addL : ROF K (rAddA K) lstCat := fun dk F H st x y d e z w rx ry hz Q q => .inr (.inr (.inr (rof_lstCat dk F H st x y d e z w rx ry hz Q q)))
end
/-! ### C() -/
section
variable {X : Cx} {k j : Nat} {c : Str} {ps : List Str} {sp : Sp} {p pos : Pos}
theorem pe_makeC0 (C : CalK X.prog X.w X.K X.mg X.base j c ps sp) (hr : Room k X.A) (gd : X.A.guards = some []) (hg : Gl X c) (hj : j + 1 ≤ k := by decide) (hdb : (c == ("__debug__" : Str)) = false := by decide) :
    PE X (.Call (.Name c p) [] [] pos) (tMake C.choose sp [] E0 tNil) := by
  obtain ⟨_, hm, f, fd, F, M, hb⟩ := C.choose_spec
  refine ⟨fun pins s σ H Q I h => ?_⟩
  refine wpAny_Call_Name_kw (ld_glob I hg hm ?_ hdb)
  refine PySem.W.callWith_K0 I.kIn M.kp (run_makeG (us := []) M F (hr.mono hj) gd hb I .nil fun x dx h1 h2 h3 => ?_)
  have := h x dx h1 h2 h3
  rw [List.append_nil] at this
  exact this
end
end MD

set_option Elab.async false
set_option linter.all false
set_option maxRecDepth 100000
set_option maxHeartbeats 2000000
namespace MD
open PySem PySem.Spec PyProof.Rows L2
variable {ww : WW}
/-! ### classes of exceptions with one field -/
/-- U.__init__(self, ..), U an own class over ValueError without one of its own -/
structure UInit (K : Fg) (C : Addr) : Prop where
  rd : PySem.W.readsIn K C (.type "type") = true
  ga : PySem.W.specialIn K (.ref C) "__getattribute__" = some (some (.builtin "type.__getattribute__"))
  at_ : PySem.W.findCls K (.ref C) (.type "type") "__init__" = some (.val (.builtin "ValueError.__init__"))
section
variable {X : Cx} {o e : Expr} {es : List Expr} {to te : TE} {ta : TA} {f c : Str} {p p' p1 p2 pos : Pos} {U : Addr}
theorem pe_uinit {pl : Sem Bool} (hg : Gl X c) (hm : X.mg c = some (.ref U)) (M : UInit X.K U) (ha : PA X (e :: es) ta) (hdb : (c == ("__debug__" : Str)) = false := by decide)
    (hc : eval (.Call (.Attribute (.Name c p1) "__init__" p2) (e :: es) [] pos) X.env = (do
      let ov ← eval (.Name c p1) X.env
      standAt p2.atName
      let (f, first) ← holding [ov] (getMethod ov "__init__" pl)
      callWith pos f first (backTo pos (starEach (e :: es) X.env)) (backToKw pos (keywordEach [] X.env))) := by rfl)
    (he : starEach (e :: es) X.env = (false, eval e X.env) :: starEach es X.env := by rfl) (hpl : (backTo pos (starEach es X.env)).any (·.1) = false := by rfl) :
    PE X (.Call (.Attribute (.Name c p1) "__init__" p2) (e :: es) [] pos) (tVeI X.K ta) := by
  refine ⟨fun pins s σ H Q I h => ?_⟩
  refine PySem.W.methodCall_KW (pl := pl) (ld_glob I hg hm ?_ hdb) hc
  refine PySem.W.method_cls I.kIn M.ga (PySem.W.cls_value I.kIn M.rd M.at_ rfl ?_)
  show wpAny _ _ (callWith pos (Value.builtin "ValueError.__init__") [] (backTo pos (starEach (e :: es) X.env)) []) _ _ _
  refine PyProof.Rows.callWith_method1 (thn (ha.run pos pins _ σ H _ (I.tok _) h) fun us s1 ⟨vs, H1, I1, r1, a, C, ws, ev, hl, T, ea, q⟩ => ?_) he hpl
  subst ev
  cases r1 with
  | @cons _ u0 _ ur ra rw' =>
    obtain rfl : u0 = Value.ref a := ra
    have hlen : ur.length ≤ sizeLine := by
      rw [← Paired.length rw', sizeLine_eq]
      omega
    exact oinit_ok T I1 ea hlen fun s' J => ⟨.non, H1, J, rfl, q⟩
end
/-- what __init__(self, y) does -/
def spEI (C : Addr) (f : Str) : Sp := fun vs H Q _ => ∃ (a : Addr) (y : V), vs = [.ref a, y] ∧ H a = some (exo a C none) ∧ ∀ dx, H dx = none → dx ≠ a → Q .non (upd (upd H dx (exd dx [(f, y)])) a (exo a C (some dx)))
/-- U.__init__(self, text); self.f = y -/
theorem exc_init {K : Fg} {C : Addr} {f : Str} (T : OexC K C) (hno : PySem.W.findIn K (.ref C) f = some none) {txt : Str} (vs : List V) (H : Hp) (Q : VK) (E : XK) (h : spEI C f vs H Q E) (N : List Str) (hN : N.length = 2) :
    tSeq (tDrop (tVeI K (tCons (tVar 0) (tCons (tC (.str txt)) tNil)))) (tOst K f (tVar 0) (tVar 1)) { nx := fun _ H' => Q .non H', rt := Q } (L2.start N vs) H := by
  obtain ⟨a, y, rfl, ha, q⟩ := h
  have h0 : (L2.start N [.ref a, y])[0]? = some (some (.ref a)) := rfl
  have h1 : (L2.start N [.ref a, y])[1]? = some (some y) := rfl
  refine ⟨_, h0, a, C, _, rfl, by simp, T, ha, ?_⟩
  refine ⟨_, h1, _, h0, a, C, rfl, T, hno, .inl ⟨ha, fun dx hd hn => q dx hd hn⟩⟩
/-- the class c of exceptions with the field f -/
structure XCls (P : Program) (w : World) (K : Fg) (mg : Str → Option Value) (base : Heap) (c f : Str) (C : Addr) : Prop where
  g : mg c = some (.ref C)
  o : OexC K C
  ga : PySem.W.findIn K (.ref C) "__getattribute__" = some (some (.builtin "BaseException.__getattribute__"))
  gg : PySem.W.findIn K (.ref C) "__getattr__" = some none
  no : PySem.W.findIn K (.ref C) f = some none
  hd : PySem.W.hasDictIn K C = true
  ini : ∃ fI fd pn, PySem.W.findIn K (.ref C) "__init__" = some (some (.ref fI)) ∧ PySem.W.typeIn K (.ref fI) = some (.type "function") ∧ FnOk P w K mg base CX0 1 fI fd ["self", pn] (spEI C f) ∧ Binds K fd ["self", pn] []
section
variable {X : Cx} {c f : Str} {C : Addr}
theorem upd_exc {H1 : Hp} {a dx : Addr} {o1 o2 o3 u : HO} (ha : H1 a = none) (hx : dx ≠ a) : upd (del (upd (upd (upd H1 a o1) dx o2) a o3) a) dx u = upd H1 dx u := by
  funext b
  by_cases hb : b = dx
  · rw [hb, upd_same, upd_same]
  · rw [upd_ne hb, upd_ne hb]
    by_cases hba : b = a
    · rw [hba, del_same, ha]
    · rw [del_ne hba, upd_ne hba, upd_ne hb, upd_ne hba]
/-- raise C(e) -/
def tRaiseX (C : Addr) (f : Str) (W : WX) (te : TE) : TS := fun _ σ H => tMkO C (spEI C f) [] (tCons te tNil) σ H fun cls d H' => W cls d σ H'
theorem ps_raiseX {W : WX} {e : Expr} {te : TE} {p pos pos2 : Pos} (hc : X.calm = true) (T : XCls X.prog X.w X.K X.mg X.base c f C) (hr : Room 2 X.A) (tk : Takes X W) (ha : PA X [e] (tCons te tNil)) (hg : Gl X c := by rfl) (hdb : (c == ("__debug__" : Str)) = false := by decide)
    (he : starEach (e :: []) X.env = (false, eval e X.env) :: starEach [] X.env := by rfl) (hpl : (backTo pos (starEach [] X.env)).any (·.1) = false := by rfl) :
    PS X (.Raise (some (.Call (.Name c p) [e] [] pos)) none pos2) (tRaiseX C f W te) := by
  obtain ⟨fI, fd, pn, i1, i2, i3, i4⟩ := T.ini
  exact ps_raise hc tk (pmk_oex T.o i1 i2 i3 hr i4 .nil (fun _ _ _ _ _ _ _ h => h.elim) hg T.g ha hdb he hpl)
end
/-! ### mirrors that raise -/
inductive Fx where
  | fl (f : Fl) | xc (c f : Str) (d : D)
abbrev MSX := Sg → S → Option (Fx × S)
/-- an exception of class c with f = d, as the heap H' has it -/
def Xw [WW] (K : Fg) (mg : Str → Option Value) (dk : Dk) (H0 : Hp) (F0 : Fz) (st : S) (c f : Str) (d : D) (E : XK) : Prop :=
  ∀ (C dx : Addr) (v : V) (F' : Fz) (H : Hp), mg c = some (.ref C) → Ext dk F0 H0 F' H → Wd K dk F' H st → Rp K dk F' v d → H dx = some (.xd [(f, v)]) → E (.ref C) (some dx) H
def DnX [WW] (K : Fg) (mg : Str → Option Value) (W : XK) (dk : Dk) (H0 : Hp) (F0 F : Fz) (E : Ends) (st : S) : Fx → Prop
  | .fl f => Dn K dk H0 F0 F E st f
  | .xc c f d => Xw K mg dk H0 F0 st c f d W
def ImSX [WW] (K : Fg) (mg : Str → Option Value) (W : XK) (ts : TS) (f : MSX) : Prop := ∀ (dk : Dk) (H0 : Hp) (F0 F : Fz) (σ : L2.St) (H : Hp) (env : Sg) (st : S) (r : Fx) (st' : S), Good K dk H0 F0 F σ H env st → f env st = some (r, st') → ∀ E : Ends, DnX K mg W dk H0 F0 F E st' r → ts E σ H
section
variable {K : Fg} {mg : Str → Option Value} {W : XK}
theorem DnX.mono {dk : Dk} {H0 : Hp} {F0 F F' : Fz} {E : Ends} {st : S} {r : Fx} (le : Le F F') (h : DnX K mg W dk H0 F0 F E st r) : DnX K mg W dk H0 F0 F' E st r := by
  cases r with
  | fl f => exact Dn.mono le h
  | xc c f d => exact h
def liX (f : MS) : MSX := fun env st => (f env st).map fun p => (.fl p.1, p.2)
theorem isx_li {t : TS} {f : MS} (h : ImS K t f) : ImSX K mg W t (liX f) := fun dk H0 F0 F σ H env st r st' g e E hd => by
  obtain ⟨⟨fl, s1⟩, e1, e⟩ := mpd e
  cases e
  exact h dk H0 F0 F σ H env st fl s1 g e1 E hd
def seqX (f h : MSX) : MSX := fun env st => (f env st).bind fun p => match p.1 with
  | .fl (.nx e) => h e p.2
  | r => some (r, p.2)
theorem isx_seq {t u : TS} {f h : MSX} (h1 : ImSX K mg W t f) (h2 : ImSX K mg W u h) : ImSX K mg W (tSeq t u) (seqX f h) := fun dk H0 F0 F σ H env st r st' g e E hd => by
  obtain ⟨⟨r1, s1⟩, e1, e⟩ := bnd e
  cases r1 with
  | fl fl1 =>
    cases fl1 with
    | nx env1 => exact h1 dk H0 F0 F σ H env st _ s1 g e1 _ fun F1 σ1 H1 le1 g1 => h2 dk H0 F0 F1 σ1 H1 env1 s1 r st' g1 e E (hd.mono le1)
    | rt d => cases e; exact h1 dk H0 F0 F σ H env st _ s1 g e1 _ hd
    | bk d => cases e; exact h1 dk H0 F0 F σ H env st _ s1 g e1 _ hd
    | ct d => cases e; exact h1 dk H0 F0 F σ H env st _ s1 g e1 _ hd
  | xc c f d => cases e; exact h1 dk H0 F0 F σ H env st _ s1 g e1 _ hd
def ifX (c : MT) (f h : MSX) : MSX := fun env st => (c env st).bind fun p => if p.1 then f env p.2 else h env p.2
theorem isx_if {c : TT} {t u : TS} {fc : MT} {f h : MSX} (h0 : ImT K c fc) (h1 : ImSX K mg W t f) (h2 : ImSX K mg W u h) : ImSX K mg W (tIfS c t u) (ifX fc f h) := fun dk H0 F0 F σ H env st r st' g e E hd => by
  obtain ⟨⟨b, s1⟩, e1, e⟩ := bnd e
  refine h0 dk H0 F0 F σ H env st b s1 g e1 _ fun F1 H1 x1 g1 => ?_
  cases b with
  | true => exact h1 dk H0 F0 F1 σ H1 env s1 r st' g1 e E (hd.mono x1.f)
  | false => exact h2 dk H0 F0 F1 σ H1 env s1 r st' g1 e E (hd.mono x1.f)
def raiX (c f : Str) (g : ME) : MSX := fun env st => (g env st).map fun p => (.xc c f p.1, p.2)
theorem isx_raise {te : TE} {g : ME} {c f : Str} {C : Addr} (hm : mg c = some (.ref C)) (h : Im K te g) : ImSX K mg W (tRaiseX C f (fun cls d _ H => W cls d H) te) (raiX c f g) := fun dk H0 F0 F σ H env st r st' gd e E hd => by
  obtain ⟨⟨d, s1⟩, e1, e⟩ := mpd e
  cases e
  refine h dk H0 F0 F σ H env st d s1 gd e1 _ fun v F1 H1 x1 g1 r1 => ?_
  refine ⟨by simp, fun a ha => ⟨a, v, by simp, upd_same, fun dx hx hn => ⟨rfl, dx, [(f, v)], upd_same, ?_, ?_, ?_⟩⟩⟩
  · rw [upd_ne hn, upd_same]
  · rw [← hx, upd_ne hn]
  · have hx1 : H1 dx = none := by rw [← hx, upd_ne hn]
    rw [upd_exc ha hn]
    have px : Px F1 H1 F1 (upd H1 dx (.xd [(f, v)])) := Px.lay g1.wd.sub hx1
    have g2 := g1.px px
    exact hd C dx v F1 _ hm g2.ext g2.wd r1 upd_same
def forLX (t : MG) (b : MSX) : List D → Sg → S → Option (Fx × S)
  | [], env, st => some (.fl (.nx env), st)
  | d :: ds, env, st => (t d env).bind fun e => (b e st).bind fun p => match p.1 with
    | .fl (.nx e) => forLX t b ds e p.2
    | .fl (.ct e) => forLX t b ds e p.2
    | .fl (.bk e) => some (.fl (.nx e), p.2)
    | r => some (r, p.2)
def forX (it : MI) (t : MG) (b : MSX) : MSX := fun env st => (it env st).bind fun p => forLX t b p.1 env p.2
theorem isx_for {wi : TI} {g : TG} {tb : TS} {it : MI} {t : MG} {b : MSX} {is : List Nat} (hi : ImI K wi it) (hg : ImG K g t is) (hb : ImSX K mg W tb b) : ImSX K mg W (tFor wi g tb) (forX it t b) := fun dk H0 F0 F σ H env st r st' gd e E hd => by
  obtain ⟨⟨ds, s1⟩, e1, e⟩ := bnd e
  refine hi dk H0 F0 F σ H env st ds s1 gd e1 _ fun J F1 H1 x1 g1 sd => ?_
  have hd1 := hd.mono x1.f
  let P : Nat → L2.St → Hp → Prop := fun i σ H => ∃ F2 env st, Le F1 F2 ∧ Good K dk H0 F0 F2 σ H env st ∧ forLX t b (ds.drop i) env st = some (r, st')
  refine ⟨fun i m σ H => m = ds.length - i ∧ i ≤ ds.length ∧ P i σ H, ⟨_, rfl, Nat.zero_le _, F1, env, s1, Le.refl F1, g1, e⟩, ?_⟩
  rintro i m σ2 H2 ⟨rfl, hle, F2, env2, s2, le2, g2, e2⟩
  by_cases hlt : i < ds.length
  · have hdi : ds[i]? = some ds[i] := List.getElem?_eq_getElem hlt
    obtain ⟨hgo, hy⟩ := (sd F2 H2 s2 le2 g2.wd i).1 _ hdi
    refine .inr ⟨hgo, P (i + 1), fun σ' H' hp => ⟨_, by omega, rfl, hlt, hp⟩, fun x H3 hx => ?_⟩
    obtain ⟨F3, px, rx⟩ := hy x H3 hx
    have g3 := g2.px px
    rw [List.drop_eq_getElem_cons hlt] at e2
    obtain ⟨env3, e3, e2⟩ := bnd e2
    obtain ⟨⟨r3, s3⟩, e4, e2⟩ := bnd e2
    refine hg dk H0 F0 F3 σ2 H3 env2 s2 x _ env3 g3 rx e3 _ fun σ4 g4 _ => ?_
    refine hb dk H0 F0 F3 σ4 H3 env3 s2 r3 s3 g4 e4 _ ?_
    cases r3 with
    | fl fl3 =>
      cases fl3 with
      | nx e5 => exact fun F5 σ5 H5 l5 g5 => ⟨F5, e5, s3, (le2.trans px.f).trans l5, g5, e2⟩
      | ct e5 => exact fun F5 σ5 H5 l5 g5 => ⟨F5, e5, s3, (le2.trans px.f).trans l5, g5, e2⟩
      | bk e5 =>
        cases e2
        exact fun F5 σ5 H5 l5 g5 => hd1 F5 σ5 H5 ((le2.trans px.f).trans l5) g5
      | rt d =>
        cases e2
        exact hd1
    | xc c f d =>
      cases e2
      exact hd1
  · have ei : i = ds.length := by omega
    subst ei
    rw [List.drop_length] at e2
    cases e2
    exact .inl ⟨(sd F2 H2 _ le2 g2.wd ds.length).2 (Nat.le_refl _), hd1 F2 σ2 H2 le2 g2⟩
end
/-! ### defs that raise -/
structure FnX (P : Program) (w : World) (K : Fg) (mg : Str → Option Value) (base : Heap) (k : Nat) (f : Addr) (fd : FuncData) (ps : List Str) (sp : Sp) : Prop where
  len : ∀ vs H Q E, sp vs H Q E → vs.length = ps.length
  run : ∀ (A : Around) (outer : List Env) (s : Shared) (H : Hp) (args : Args) (us : List Value) (vs : List V) (Q : VK) (E : XK), Room k A → A.guards = some [] → Env0 P w K mg base A outer s H → BindsTo s fd args (ps.zip us) → Vals vs us →
    sp vs H Q E → codeAny (model P w) A (.call (.ref f) args) (CR (L2.CX P w) outer P w H s Q E) s
theorem fnX_of {P : Program} {w : World} {K : Fg} {mg : Str → Option Value} {base : Heap} {x qual : Str} {st : Stmt} {f : Addr} {fd : FuncData} {N ps : List Str} {k : Nat} {sp : Sp} (Fn : Fun K x qual st f fd) (S : FnScope N ps (defScope st))
    (len : ∀ vs H Q E, sp vs H Q E → vs.length = ps.length)
    (hbody : ∀ (cdv : Value) (A : Around) (outer : List Env) (s : Shared) (H : Hp) (vs : List V) (Q : VK) (E : XK), Room k (A.deeper (envOfC qual (defScope st) s.heap.objs.size f cdv)) → (A.deeper (envOfC qual (defScope st) s.heap.objs.size f cdv)).guards = some [] → sp vs H Q E →
      ∃ t, PSs (cxOf (L2.CX P w) P w K mg base N qual (defScope st) f cdv A outer s H E) (defBody st) t ∧ t { nx := fun _ H' => Q .non H', rt := Q } (L2.start N vs) H) : FnX P w K mg base (k + 1) f fd ps sp := by
  refine ⟨len, fun A outer s H args us vs Q E hr gd e0 hb r hsp => ?_⟩
  obtain ⟨oc, od, kV, doc, pm, an, cdv, ct, osl, rfl, lk, hcd⟩ := Fn.ex
  have hl := len _ _ _ _ hsp
  have KX : K.In s.heap := e0.mod.kin.keeps fun b o e => (e0.bs b o e).1
  have lim : s.heap.NoLimit := e0.mod.nolimit.keeps fun b o e => (e0.bs b o e).1
  have hkind : ∀ y ∈ ps.zip us, (defScope st).names.lookup y.1 = some .local ∨ ((defScope st).names.lookup y.1 = some .cell ∧ ((cellsFrom (s.heap.objs.size + 1) (defScope st).names []).lookup y.1).isSome = true) := by
    rintro ⟨n, v⟩ hy
    rcases S.par n (List.of_mem_zip hy).1 with q | q
    · exact .inl q
    · exact .inr ⟨q, PySem.W.cellsFrom_some _ _ _ (.inl q)⟩
  refine codeAny_call_function hr.depth (KX _ _ lk) rfl S.co S.gen rfl (PySem.W.codeRec_of KX hcd) (hb _ _ _ _ ?_)
  refine wpAny_newFunctionEnv_cells S.kind hkind fun env he s1 y => ?_
  subst he
  refine ⟨lim.keeps y.toInCall.keep, codeAny_func ?_⟩
  obtain ⟨t, ht, hq⟩ := hbody cdv A outer s H vs Q E (hr.deeper _) (guards_deeper _ gd) hsp
  have I := inv_start (CX := L2.CX P w) (E := E) (qual := qual) (f := f) (cd := cdv) S hr.hd e0 hl r y
  refine wpAny_mono (ht.run [] s1 (L2.start N vs) H _ I hq) (fun fl s' hs => ?_) fun er s' hs => hs
  cases fl with
  | ret u =>
    obtain ⟨v, σ', H', J, rv, q⟩ := hs
    exact ⟨v, H', J.os, J.bare, J.base, J.hok, rv, q⟩
  | next =>
    obtain ⟨σ', H', J, q⟩ := hs
    exact ⟨V.non, H', J.os, J.bare, J.base, J.hok, rfl, q⟩
  | brk =>
    obtain ⟨_, _, _, q⟩ := hs
    exact False.elim q
  | cont =>
    obtain ⟨_, _, _, q⟩ := hs
    exact False.elim q
/-- what a mirror of a def that raises gives -/
inductive Rx where
  | ok (d : D) | xc (c f : Str) (d : D)
abbrev MFX := List D → S → Option (Rx × S)
def spX [WW] (K : Fg) (mg : Str → Option Value) (n : Nat) (m : MFX) : Sp := fun vs H Q E => vs.length = n ∧ ∃ (dk : Dk) (F : Fz) (ds : List D) (st : S) (r : Rx) (st' : S), Wd K dk F H st ∧ Rps K dk F vs ds ∧ m ds st = some (r, st') ∧
  match r with
  | .ok d => ∀ v F' H', Ext dk F H F' H' → Wd K dk F' H' st' → Rp K dk F' v d → Q v H'
  | .xc c f d => Xw K mg dk H F st' c f d E
def runX (N : Nat) (b : MSX) : MFX := fun ds st => (b (ds.map Sl.val ++ List.replicate (N - ds.length) Sl.un) st).bind fun p => match p.1 with
  | .fl (.rt d) => some (.ok d, p.2)
  | .fl (.nx _) => some (.ok .non, p.2)
  | .xc c f d => some (.xc c f d, p.2)
  | _ => none
section
variable {K : Fg}
theorem fnDX {P : Program} {w : World} {mg : Str → Option Value} {base : Heap} {x qual : Str} {st : Stmt} {f : Addr} {fd : FuncData} {N ps : List Str} {k : Nat} {b : MSX} (Fn : Fun K x qual st f fd) (S : FnScope N ps (defScope st)) (hN : ps.length ≤ N.length)
    (hbody : ∀ (cdv : Value) (A : Around) (outer : List Env) (s : Shared) (H : Hp) (E : XK), Room k (A.deeper (envOfC qual (defScope st) s.heap.objs.size f cdv)) → (A.deeper (envOfC qual (defScope st) s.heap.objs.size f cdv)).guards = some [] →
      ∃ t, PSs (cxOf (L2.CX P w) P w K mg base N qual (defScope st) f cdv A outer s H E) (defBody st) t ∧ ImSX K mg E t b) : FnX P w K mg base (k + 1) f fd ps (spX K mg ps.length (runX N.length b)) := by
  refine fnX_of Fn S (fun vs H Q E h => h.1) fun cdv A outer s H vs Q E hr gd h => ?_
  obtain ⟨hlv, dk, F, ds, s0, r, s1, wd, rr, e, q⟩ := h
  obtain ⟨t, h1, h2⟩ := hbody cdv A outer s H E hr gd
  refine ⟨t, h1, ?_⟩
  obtain ⟨⟨x, s2⟩, e1, e⟩ := bnd e
  refine h2 dk H F F (L2.start N vs) H _ s0 x s2 (good_start wd rr (by rw [hlv]; exact hN)) e1 _ ?_
  cases x with
  | fl fl =>
    cases fl with
    | rt d' => cases e; exact fun v F' H' x w r => q v F' H' x w r
    | nx en => cases e; exact fun F' σ' H' le g => q .non F' H' g.ext g.wd .non
    | bk en => cases e
    | ct en => cases e
  | xc c f d => cases e; exact q
end
/-! ### f(e, ..) in a try -/
section
variable {X : Cx} {k : Nat} {f : Addr} {fd : FuncData} {ps : List Str} {sp : Sp} {x : Str} {p pos : Pos} {e : Expr} {es : List Expr} {t : TA} {E : L2.St → XK}
theorem pe_callX (F : FnX X.prog X.w X.K X.mg X.base k f fd ps sp) (hr : Room k X.A) (gd : X.A.guards = some []) (hg : Gl X x) (hm : X.mg x = some (.ref f)) (hk : PySem.W.keepIn X.K (.ref f) = true) (hb : Binds X.K fd ps []) (hx : ∀ σ, PassesAt (L2.CX X.prog X.w) X σ (E σ))
    (ha : PA X (e :: es) t) (hdb : (x == ("__debug__" : Str)) = false := by decide) (he : starEach (e :: es) X.env = (false, eval e X.env) :: starEach es X.env := by rfl) (hpl : (backTo pos (starEach es X.env)).any (·.1) = false := by rfl) :
    PE X (.Call (.Name x p) (e :: es) [] pos) (tCallS sp E t) := by
  refine ⟨fun pins s σ H Q I h => ?_⟩
  refine wpAny_Call_Name_kw (ld_glob I hg hm ?_ hdb)
  refine PySem.W.callWith_K (h₀ := X.base) I.ok.mod.kin hk (thn (ha.run pos pins s σ H _ I h) fun us s1 q0 => ?_) he hpl
  obtain ⟨vs, H1, I1, r, q⟩ := q0
  refine ⟨I1.kIn, ?_⟩
  have hl : us.length = ps.length := r.length.symm.trans (F.len _ _ _ _ q)
  have bb := hb s1 us I1.kIn (by rw [List.append_nil]; exact hl)
  rw [List.append_nil] at bb
  refine wpAny_call (codeAny_mono (F.run X.A X.stack s1 H1 ⟨us, []⟩ us vs Q (E σ) hr gd I1.env0 bb r q) fun rr s' hq => ?_)
  cases rr with
  | error er => exact hx σ pins H1 s1 er s' I1 hq
  | ok fl =>
    cases fl with
    | ret u => exact I1.after hq
    | next => exact False.elim hq
    | brk => exact False.elim hq
    | cont => exact False.elim hq
end
end MD

set_option Elab.async false
set_option linter.all false
set_option maxRecDepth 100000
set_option maxHeartbeats 2000000
namespace MD
open PySem PySem.Spec PyProof.Rows L2
variable {ww : WW}
/-! ### try: body; except X as n: suite; except Y as m: suite .. -/
abbrev TX := Addr → Value → Option Addr → TS
/-- the ends of a suite whose name in slot i goes -/
def offE (i : Nat) (D : Ends) : Ends := { nx := fun σ' H' => D.nx (σ'.set i none) H', rt := D.rt, bk := fun σ' H' => D.bk (σ'.set i none) H', ct := fun σ' H' => D.ct (σ'.set i none) H' }
def wManyAs (K : Fg) (Wout : WX) (D : Ends) : List (Value × Nat × TX) → WX
  | [] => Wout
  | (c, i, ts) :: r => fun cls d σ H => ∃ b, PySem.W.exmOne K cls c = some b ∧ (b = true → ∀ a, H a = none → ts a cls d (offE i D) (σ.set i (some (.ref a))) H) ∧ (b = false → wManyAs K Wout D r cls d σ H)
inductive HdsAs (X : Cx) : List ExceptHandler → List (Value × Nat × TX) → Prop
  | nil : HdsAs X [] []
  | cons {x n : Str} {c : Value} {i : Nat} {ts : TX} {b₀ : Stmt} {suite : List Stmt} {np pos' : Pos} {hds : List ExceptHandler} {l : List (Value × Nat × TX)} (hc : Names X x c) (hi : X.N[i]? = some n) (hln : X.env.kindOf n = some .local)
      (hsu : ∀ (a : Addr) (oe : Obj) (cls : Value) (d : Option Addr) (pn : List (Addr × Obj)), Zc cls d oe → (∃ vs, oe.data = .fields vs) → PSs (X.suite a ((a, oe) :: pn)) (b₀ :: suite) (ts a cls d)) (r : HdsAs X hds l) :
      HdsAs X (.ExceptHandler (some (.Name x np)) (some n) (b₀ :: suite) pos' :: hds) ((c, i, ts) :: l)
section
variable {X : Cx} {body : List Stmt} {h₀ : ExceptHandler} {hds : List ExceptHandler} {l : List (Value × Nat × TX)} {pos : Pos} {tb : WX → TS} {Wout : WX}
theorem ps_try_as2 (hs : X.stack = X.env :: X.outer) (hf : X.env.frame = some X.env.locals) (hN : X.N.Nodup) (tk : Takes X Wout)
    (hb : ∀ (W : WX) (pn : List (Addr × Obj)) (xe : Value → Shared → Prop), Takes (X.tr pn xe) W → PassesOwn (model X.prog X.w) X.A X.env xe → PSs (X.tr pn xe) body (tb W))
    (hh : HdsAs X (h₀ :: hds) l) : PS X (.Try body (h₀ :: hds) [] [] pos) (fun D σ H => tb (wManyAs X.K Wout D l) D σ H) := by
  refine ⟨fun pins s σ H D I h => ?_⟩
  have ok := I.ok
  have hfr : X.A.frames = some (X.env :: X.outer) := by rw [ok.frames, hs]
  refine wpAny_Try_except ?_
  refine wpAny_mono ((hb (wManyAs X.K Wout D l) (X.pn ++ pins) (fun e s₁ => wpAny (model X.prog X.w) X.A (noteFrame e X.env) (fun _ s₂ => wpAny (model X.prog X.w) X.A (setFlight e none) (fun _ s₃ =>
    wpAny (model X.prog X.w) X.A (handleBy e X.env (h₀ :: hds)) (SP X pins D) X.xe s₃) X.xe s₂) X.xe s₁) (fun u s' xx => ?_) PassesOwn.looking).run [] s σ H D (I.toTry _) h) (fun f s1 hsp => ?_) (fun e s1 he => he)
  · -- the catch
    obtain ⟨a, B, sI, pins', σ', H', cls, d, rfl, J', nb, up, sky, na, os, ag, w⟩ := xx
    have J : Inv X pins σ' H' sI := J'.ofTry ok
    have sky' : Sky B (X.env :: X.outer) a (Zc cls d) X.env.locals s'.heap := by rw [← hs]; exact sky
    show wpAny (model X.prog X.w) X.A (noteFrame (.ref a) X.env) _ _ _
    refine Sky.land Zc.steady hfr hf sky' fun h3 fl3 up3 => ?_
    have J3 : Inv X pins σ' H' { s' with heap := h3 } := J.landed nb fl3.1 (up.trans up3) os ag
    obtain ⟨oe3, vs3, he3, hz3, hd3⟩ := fl3.there
    have notFr : ∀ {h : Heap} {o : Obj} {vs : Array Value}, h.FunFrames B (X.env :: X.outer) → h.get? a = some o → o.data = .fields vs → a ∉ frs (X.env :: X.outer) := fun {h o vs} ff e dd hm => by
      obtain ⟨_, o', e', hnf⟩ := ff.mem hm
      rw [e] at e'; cases e'
      exact hnf _ dd
    have nfr := notFr fl3.2.2.1 he3 hd3
    have nL : a ≠ X.env.locals := fun z => nfr (List.mem_filterMap.mpr ⟨X.env, List.mem_cons_self, by rw [hf, z]⟩)
    have nF : a ∉ X.fs := fun hm => by
      obtain ⟨e, he, q⟩ := List.mem_filterMap.mp hm
      exact nfr (List.mem_filterMap.mpr ⟨e, List.mem_cons_of_mem _ he, q⟩)
    have S3 := J3.suite he3 hd3 na nL nF
    have go : ∀ {hds' : List ExceptHandler} {l' : List (Value × Nat × TX)}, HdsAs X hds' l' → wManyAs X.K Wout D l' cls d σ' H' →
        wpAny (model X.prog X.w) X.A (handleBy (.ref a) X.env hds') (SP X pins D) X.xe { s' with heap := h3 } := by
      intro hds' l' hk
      induction hk with
      | nil =>
        intro w
        refine wpAny_handleBy_nil ?_
        obtain ⟨k1, k2, k3, oe, vs, T, oT, ts', he, hz, hd, h1, hr⟩ := id fl3
        unfold PySem.passOn
        refine wpAny_bind (wpAny_field he hd h1 ?_)
        rw [if_neg (show ¬ ((Value.ref T == Value.none) = true) from by simp)]
        have fin : wpAny (model X.prog X.w) X.A (setFlight (.ref a) X.env.frame) (fun _ s4 => wpAny (model X.prog X.w) X.A (throw (.ref a) : Sem Flow) (SP X pins D) X.xe s4) X.xe { s' with heap := h3 } := by
          rw [hf]
          refine HandSPX.setFlight_upZ fl3 fun h4 hh4 up4 => wpAny_throw (tk _ _ ?_)
          exact ⟨a, B, sI, pins, σ', H', cls, d, rfl, J, nb, (up.trans up3).trans up4, .inr (.inr (by rw [hs]; exact hh4)), na, os, ag, w⟩
        first
          | exact wpAny_bind (wpAny_pure (wpAny_bind fin))
          | exact wpAny_bind fin
      | @cons x n c i ts b₀ suite np pos' hds2 l2 hc hi hln hsu r ih =>
        intro w
        obtain ⟨b, hb1, hyes, hno⟩ := w
        refine wpAny_handleBy_cons (codeAny_handlers_test ?_) (by intro q; cases q)
        have LT : PySem.W.Looks (model X.prog X.w) h3 (typeOf (.ref a)) cls := fun A Q E s k q => wpAny_typeOf_ref (k _ _ he3) (by rw [hz3.1]; exact q)
        have LM := PySem.W.exm_one (M := model X.prog X.w) (J3.kIn) LT hb1
        have test : ∀ {Q : Value → Shared → Prop} {E : Value → Shared → Prop}, Q c { s' with heap := h3 } → wpAny (model X.prog X.w) (X.A.mark (some (.ref a))) (eval (.Name x np) X.env) Q E { s' with heap := h3 } := fun {Q E} q => by
          obtain ⟨hg, hdbg, hm | ⟨hm, hv, hnn⟩⟩ := hc
          · exact ld_glob (X := X.suite a ((a, oe3) :: (X.pn ++ pins))) S3 hg hm q hdbg
          · exact ld_blt (X := X.suite a ((a, oe3) :: (X.pn ++ pins))) S3 hg hm hv q hnn hdbg
        refine test (LM.here ?_)
        have hloc : Loc X.env.scope n := .inl hln
        cases b with
        | true =>
          refine codeAny_handlers_suite_as ?_
          refine HandSPX.lands_againZ fl3 fun h4 fl4 up4 => ?_
          have J4 : Inv X pins σ' H' { s' with heap := h4 } := J.landed nb fl4.1 ((up.trans up3).trans up4) os ag
          obtain ⟨oe4, vs4, he4, hz4, hd4⟩ := fl4.there
          have S4 := J4.suite he4 hd4 na nL nF
          refine store_ok (X := X.suite a ((a, oe4) :: (X.pn ++ pins))) (v := .ref a) S4 hN hi hloc rfl (fun s5 S5 => ?_) (.inr hln)
          refine wpAny_mono ((hsu a oe4 cls d (X.pn ++ pins) hz4 ⟨_, hd4⟩).run [] s5 _ H' _ S5 (hyes rfl a na)) (fun f s6 hsp => ?_) (fun _ _ z => False.elim z)
          have end_ : ∀ {σ6 : L2.St} {H6 : Hp} {Q : Shared → Prop}, Inv (X.suite a ((a, oe4) :: (X.pn ++ pins))) [] σ6 H6 s6 → (∀ s7, Inv X pins (σ6.set i none) H6 s7 → Q s7) →
              wpAny (model X.prog X.w) X.A (do bindName X.env n .none; unbindBehindTheSuite X.env n pos') (fun _ s7 => Q s7) X.xe s6 := fun {σ6 H6 Q} S6 hq => gone_ok (S6.unsuite ok) hN hi hln hq
          cases f with
          | next =>
            obtain ⟨σ6, H6, S6, q6⟩ := hsp
            exact end_ S6 fun s7 J7 => ⟨_, _, J7, q6⟩
          | brk =>
            obtain ⟨σ6, H6, S6, q6⟩ := hsp
            exact end_ S6 fun s7 J7 => ⟨_, _, J7, q6⟩
          | cont =>
            obtain ⟨σ6, H6, S6, q6⟩ := hsp
            exact end_ S6 fun s7 J7 => ⟨_, _, J7, q6⟩
          | ret u =>
            obtain ⟨v6, σ6, H6, S6, r6, q6⟩ := hsp
            exact end_ S6 fun s7 J7 => ⟨_, _, _, J7, r6, q6⟩
        | false =>
          show wpAny _ X.A (handleBy (.ref a) X.env hds2) _ _ _
          exact ih (hno rfl)
    exact go hh w
  · cases f with
    | next =>
      obtain ⟨σ', H', J', q⟩ := hsp
      exact wpAny_execs_nil ⟨σ', H', J'.ofTry ok, q⟩
    | brk =>
      obtain ⟨σ', H', J', q⟩ := hsp
      exact ⟨σ', H', J'.ofTry ok, q⟩
    | cont =>
      obtain ⟨σ', H', J', q⟩ := hsp
      exact ⟨σ', H', J'.ofTry ok, q⟩
    | ret u =>
      obtain ⟨v, σ', H', J', r, q⟩ := hsp
      exact ⟨v, σ', H', J'.ofTry ok, r, q⟩
end
theorem takesNo {X : Cx} : Takes X (fun _ _ _ _ => False) := fun _ _ ⟨_, _, _, _, _, _, _, _, _, _, _, _, _, _, _, _, w⟩ => w.elim
/-! ### e.f, e the exception that the suite holds -/
def tByX (C : Addr) (f : Str) (a : Addr) (cls : Value) (d : Option Addr) (te : TE) : TE := fun σ H Q => te σ H fun x H1 => x = .ref a ∧ cls = .ref C ∧ ∃ (dd : Addr) (v : V), d = some dd ∧ H1 dd = some (.xd [(f, v)]) ∧ Q v H1
section
variable {X : Cx} {c f : Str} {C a : Addr} {oe : Obj} {cls : Value} {d : Option Addr} {pn : List (Addr × Obj)} {e : Expr} {te : TE} {pos : Pos}
theorem pe_byX (T : XCls X.prog X.w X.K X.mg X.base c f C) (hz : Zc cls d oe) (hf : ∃ vs, oe.data = .fields vs) (he : PE (X.suite a ((a, oe) :: pn)) e te)
    (hb : attributeBase e f X.env (eval e X.env) = eval e X.env := by rfl) :
    PE (X.suite a ((a, oe) :: pn)) (.Attribute e f pos) (tByX C f a cls d te) := by
  refine ⟨fun pins s σ H Q I h => ?_⟩
  refine attr_of hb (thn (he.run pins s σ H _ I h) fun u s1 hh => ?_)
  obtain ⟨x, H1, I1, rx, ex, ec, dd, v, ed, ea, q⟩ := hh
  subst ex
  obtain rfl : u = Value.ref a := rx
  subst ec
  subst ed
  obtain ⟨ha, _⟩ := I1.pin (a, oe) (List.mem_append_left _ List.mem_cons_self)
  obtain ⟨vs, hd⟩ := hf
  have hx : ObjOk X.prog X.w H1 s1.heap dd (.xd [(f, v)]) := I1.hok dd _ ea
  obtain ⟨mA, hns, hr⟩ := hx
  obtain ⟨od, ho, hl⟩ := lookIn_ns hns
  have l : List.lookup f [(f, v)] = some v := by simp [List.lookup]
  obtain ⟨u, hu, ru⟩ := RelO.some_of (v := v) (o := mA f) (by rw [← l]; exact hr f)
  have J : PySem.W.InstAt s1.heap a oe C (some od) := ⟨ha, hz.1, by unfold PySem.W.notCls; rw [hd] <;> rfl, by rw [hz.2]; exact ho⟩
  exact HandSPX.exc_get I1.kIn J T.ga T.gg T.o.exC (PySem.W.findObj_own T.hd T.no rfl (by rw [hl, hu])) (handed_of ru) ⟨v, H1, I1.tok _, ru, q⟩
end
/-! ### found = [s, f(x)], two clauses: found = [t, n.field] -/
def suT (C : Addr) (f t : Str) (j e : Nat) : TX := fun a cls d => tAsg (tLst (tCons (tC (.str t)) (tCons (tByX C f a cls d (tVar e)) tNil))) (gName j)
def tTry2 (K : Fg) (sp : Sp) (s : Str) (i j e : Nat) (C1 : Addr) (f1 t1 : Str) (C2 : Addr) (f2 t2 : Str) : TS := fun D σ H =>
  (fun W : WX => tAsg (tLst (tCons (tC (.str s)) (tCons (tCallS sp (WE W) (tCons (tVar i) tNil)) tNil))) (gName j)) (wManyAs K (fun _ _ _ _ => False) D [(.ref C1, e, suT C1 f1 t1 j e), (.ref C2, e, suT C2 f2 t2 j e)]) D σ H
def try2M (m : MFX) (s : Str) (i j e : Nat) (c1 f1 t1 c2 f2 t2 : Str) : MS := fun env st => match env[i]? with
  | some (.val d) => (m [d] st).bind fun p => match p.1 with
    | .ok x => some (.nx (env.set j (.val (.lst [.str s, x]))), p.2)
    | .xc c f x => if e < env.length ∧ c = c1 ∧ f = f1 then some (.nx (((env.set e .un).set j (.val (.lst [.str t1, x]))).set e .un), p.2)
      else if e < env.length ∧ c = c2 ∧ f = f2 ∧ c ≠ c1 then some (.nx (((env.set e .un).set j (.val (.lst [.str t2, x]))).set e .un), p.2) else none
  | _ => none
section
variable {K : Fg} {dk : Dk} {F F0 : Fz} {H H0 : Hp} {σ : L2.St} {env : Sg} {st : S}
theorem Good.unset {i : Nat} {y : Option V} (g : Good K dk H0 F0 F σ H env st) : Good K dk H0 F0 F (σ.set i y) H (env.set i .un) st :=
  g.reslot (by rw [List.length_set, List.length_set]; exact g.len) fun j s e => by
    by_cases hj : i = j
    · subst hj
      by_cases hl : i < env.length
      · rw [List.getElem?_set_self hl] at e; cases e; exact .inl rfl
      · rw [List.getElem?_eq_none (by rw [List.length_set]; omega)] at e; cases e
    · rw [List.getElem?_set_ne hj] at e
      exact .inr ⟨e, List.getElem?_set_ne hj⟩
/-- a new list of two -/
theorem Good.pair {j : Nat} {p : Addr} {v1 v2 : V} {d1 d2 : D} (g : Good K dk H0 F0 F σ H env st) (r1 : Rp K dk F v1 d1) (r2 : Rp K dk F v2 d2) (hp : H p = none) :
    ∃ F', Le F F' ∧ Good K dk H0 F0 F' (σ.set j (some (.ref p))) (upd H p (.lst [v1, v2])) (env.set j (.val (.lst [d1, d2]))) st := by
  have px : Px F H (F.up p (.lst [v1, v2])) (upd H p (.lst [v1, v2])) := Px.new g.wd.sub hp
  have g2 := g.px px
  exact ⟨_, px.f, g2.set (.lst Fz.up_same (.cons (r1.mono px.f) (.cons (r2.mono px.f) .nil)))⟩
theorem is_try2 {mg : Str → Option Value} {m : MFX} {s : Str} {i j e : Nat} {c1 f1 t1 c2 f2 t2 : Str} {C1 C2 : Addr} (h1 : mg c1 = some (.ref C1)) (h2 : mg c2 = some (.ref C2)) (x11 : PySem.W.exmOne K (.ref C1) (.ref C1) = some true) (x21 : PySem.W.exmOne K (.ref C2) (.ref C1) = some false) (x22 : PySem.W.exmOne K (.ref C2) (.ref C2) = some true) :
    ImS K (tTry2 K (spX K mg 1 m) s i j e C1 f1 t1 C2 f2 t2) (try2M m s i j e c1 f1 t1 c2 f2 t2) := fun dk H0 F0 F σ H env st fl st' g ee E hd => by
  have sz : (2 : Nat) ≤ sizeLine := by decide
  unfold try2M at ee
  split at ee
  · rename_i d hi
    obtain ⟨⟨r, s1⟩, e1, e2⟩ := bnd ee
    clear ee
    obtain ⟨v, hv, rv⟩ := g.sl i _ hi
    have hv := join_eq hv
    -- a clause
    have clause : ∀ {C dx : Addr} {f t : Str} {x : D} {v' : V} {F' : Fz} {H' : Hp} {a : Addr} {D' : D}, fl = .nx (((env.set e .un).set j (.val (.lst [.str t, x]))).set e .un) → st' = s1 → e < env.length → Ext dk F H F' H' → Wd K dk F' H' s1 → Rp K dk F' v' x → H' dx = some (.xd [(f, v')]) →
        suT C f t j e a (.ref C) (some dx) (offE e E) (σ.set e (some (.ref a))) H' := fun {C dx f t x v' F' H' a D'} ef es hl x w rp hx => by
      subst ef es
      have hg : (σ.set e (some (.ref a)))[e]? = some (some (.ref a)) := List.getElem?_set_self (by rw [g.len]; exact hl)
      have g1 := (g.step x w).unset (i := e) (y := some (.ref a))
      refine ⟨_, hg, rfl, rfl, dx, v', rfl, hx, sz, fun p hp => ?_⟩
      obtain ⟨F2, le, g2⟩ := g1.pair (j := j) (.str t) rp hp
      exact hd F2 _ _ (x.f.trans le) (g2.unset (i := e) (y := none))
    refine ⟨v, hv, rfl, dk, F, [d], st, r, s1, g.wd, .cons rv .nil, e1, ?_⟩
    cases r with
    | ok x =>
      cases e2
      exact fun v' F' H' x w rp => ⟨sz, fun p hp => by
        obtain ⟨F2, le, g2⟩ := (g.step x w).pair (j := j) (.str s) rp hp
        exact hd F2 _ _ (x.f.trans le) g2⟩
    | xc c f x =>
      dsimp only at e2
      intro C dx v' F' H' hm xx w rp hx
      split at e2
      · rename_i hc
        obtain ⟨hl, rfl, rfl⟩ := hc
        cases e2
        rw [h1] at hm
        cases hm
        exact ⟨true, x11, fun _ a ha => clause (D' := .non) rfl rfl hl xx w rp hx, fun z => nomatch z⟩
      · split at e2
        · rename_i hc
          obtain ⟨hl, rfl, rfl, _⟩ := hc
          cases e2
          rw [h2] at hm
          cases hm
          exact ⟨false, x21, (fun z => nomatch z), fun _ => ⟨true, x22, fun _ a ha => clause (D' := .non) rfl rfl hl xx w rp hx, fun z => nomatch z⟩⟩
        · cases e2
  · cases ee
end
/-! ### words for the texts -/
def CalX (P : Program) (w : World) (K : Fg) (mg : Str → Option Value) (base : Heap) (k : Nat) (x : Str) (ps : List Str) (sp : Sp) : Prop :=
  ∃ f fd, FnX P w K mg base k f fd ps sp ∧ mg x = some (.ref f) ∧ PySem.W.keepIn K (.ref f) = true ∧ Binds K fd ps []
section
variable {X : Cx} {j k : Nat} {ps : List Str} {sp : Sp} {x : Str} {p pos : Pos} {e : Expr} {es : List Expr} {t : TA} {E : L2.St → XK}
theorem pe_callXC (C : CalX X.prog X.w X.K X.mg X.base j x ps sp) (hr : Room k X.A) (gd : X.A.guards = some []) (hg : Gl X x) (hx : ∀ σ, PassesAt (L2.CX X.prog X.w) X σ (E σ)) (ha : PA X (e :: es) t) (hj : j ≤ k := by decide) (hdb : (x == ("__debug__" : Str)) = false := by decide)
    (he : starEach (e :: es) X.env = (false, eval e X.env) :: starEach es X.env := by rfl) (hpl : (backTo pos (starEach es X.env)).any (·.1) = false := by rfl) :
    PE X (.Call (.Name x p) (e :: es) [] pos) (tCallS sp E t) := by
  obtain ⟨f, fd, F, hm, hk, hb⟩ := C
  exact pe_callX F (hr.mono hj) gd hg hm hk hb hx ha hdb he hpl
end
theorem exm_of {K : Fg} {S T : Addr} {b : Bool} (h1 : PySem.W.subIn K (.ref T) (.type "BaseException") = some true) (h2 : PySem.W.isClsIn K T = true) (h3 : PySem.W.typeIn K (.ref T) = some (.type "type")) (h4 : PySem.W.subIn K (.ref S) (.ref T) = some b) : PySem.W.exmOne K (.ref S) (.ref T) = some b := by
  have h2' : (PySem.W.clsIn K T).isSome = true := h2
  unfold PySem.W.exmOne
  rw [h1, if_pos (by rfl)]
  show PySem.W.kitCls K (.ref S) (.ref T) = some b
  unfold PySem.W.kitCls
  dsimp only
  rw [h2', h3, if_pos (by simp)]
  exact h4
theorem oexC_mk {K : Fg} {C U : Addr} {nm q : Str} {N : Addr} {bs : List Value} {sn : List Str} {sub : List Value} {ab : Bool} {col : Option Bool} {dd : Option Addr} {m0 m1 m2 m3 m5 : Option Value}
    (xL : K.lookup C = some (excClassObj nm q C N bs [.ref U, .type "ValueError", .type "Exception", .type "BaseException", .type "object"] true sn sub ab col dd m0 m1 m2 m3 m5 "ValueError.__new__"))
    (sa : PySem.W.findIn K (.ref C) "__setattr__" = some (some (.builtin "object.__setattr__"))) (eC : PySem.W.subIn K (.ref C) (.type "BaseException") = some true) (tC : PySem.W.typeIn K (.ref C) = some (.type "type")) (kC : PySem.W.keepIn K (.ref C) = true) : OexC K C :=
  ⟨⟨nm, q, N, bs, _, sn, sub, ab, col, dd, m0, m1, m2, m3, m5, xL, by show PySem.HandSPX.refsVE PySem.HandSPX.veTail = true; decide +kernel⟩, sa, eC, tC, kC⟩
theorem fnE_len {C : Addr} {f : Str} {a b : Str} : ∀ vs H Q E, spEI C f vs H Q E → vs.length = [a, b].length := fun vs H Q E h => by
  obtain ⟨_, _, rfl, _⟩ := h; rfl
end MD

set_option Elab.async false
set_option linter.all false
set_option maxRecDepth 100000
set_option maxHeartbeats 2000000
namespace MD
open PySem PySem.Spec PyProof.Rows L2
variable {ww : WW}
/-! ### expressions that raise -/
abbrev MEX := Sg → S → Option (Rx × S)
inductive Ax where
  | ok (ds : List D) | xc (c f : Str) (d : D)
abbrev MAX := Sg → S → Option (Ax × S)
theorem Xw.mono {K : Fg} {mg : Str → Option Value} {dk : Dk} {H H1 : Hp} {F F1 : Fz} {st : S} {c f : Str} {d : D} {E : XK} (h : Xw K mg dk H F st c f d E) (x : Ext dk F H F1 H1) : Xw K mg dk H1 F1 st c f d E :=
  fun C dx v F' H' hm y w r e => h C dx v F' H' hm (x.trans y) w r e
def ImEX [WW] (K : Fg) (mg : Str → Option Value) (W : WX) (te : TE) (f : MEX) : Prop := ∀ (dk : Dk) (H0 : Hp) (F0 F : Fz) (σ : L2.St) (H : Hp) (env : Sg) (st : S) (r : Rx) (st' : S), Good K dk H0 F0 F σ H env st → f env st = some (r, st') → ∀ Q : VK,
  (match r with
    | .ok d => ∀ v F' H', Ext dk F H F' H' → Good K dk H0 F0 F' σ H' env st' → Rp K dk F' v d → Q v H'
    | .xc c g d => Xw K mg dk H F st' c g d (WE W σ)) → te σ H Q
def ImAX [WW] (K : Fg) (mg : Str → Option Value) (W : WX) (ta : TA) (f : MAX) : Prop := ∀ (dk : Dk) (H0 : Hp) (F0 F : Fz) (σ : L2.St) (H : Hp) (env : Sg) (st : S) (r : Ax) (st' : S), Good K dk H0 F0 F σ H env st → f env st = some (r, st') → ∀ Q : List V → Hp → Prop,
  (match r with
    | .ok ds => ∀ vs F' H', Ext dk F H F' H' → Good K dk H0 F0 F' σ H' env st' → Rps K dk F' vs ds → Q vs H'
    | .xc c g d => Xw K mg dk H F st' c g d (WE W σ)) → ta σ H Q
section
variable {K : Fg} {mg : Str → Option Value} {W : WX}
def puX (f : ME) : MEX := fun env st => (f env st).map fun p => (.ok p.1, p.2)
theorem ix_pu {te : TE} {f : ME} (h : Im K te f) : ImEX K mg W te (puX f) := fun dk H0 F0 F σ H env st r st' g e Q q => by
  obtain ⟨⟨d, s1⟩, e1, e⟩ := mpd e
  cases e
  exact h dk H0 F0 F σ H env st d s1 g e1 Q q
def puA (f : MA) : MAX := fun env st => (f env st).map fun p => (.ok p.1, p.2)
theorem iax_pu {ta : TA} {f : MA} (h : ImA K ta f) : ImAX K mg W ta (puA f) := fun dk H0 F0 F σ H env st r st' g e Q q => by
  obtain ⟨⟨d, s1⟩, e1, e⟩ := mpd e
  cases e
  exact h dk H0 F0 F σ H env st d s1 g e1 Q q
def consX (f : MEX) (a : MAX) : MAX := fun env st => (f env st).bind fun p => match p.1 with
  | .ok d => (a env p.2).map fun q => match q.1 with
    | .ok ds => (.ok (d :: ds), q.2)
    | .xc c g x => (.xc c g x, q.2)
  | .xc c g x => some (.xc c g x, p.2)
theorem iax_cons {te : TE} {ta : TA} {f : MEX} {a : MAX} (h : ImEX K mg W te f) (hr : ImAX K mg W ta a) : ImAX K mg W (tCons te ta) (consX f a) := fun dk H0 F0 F σ H env st r st' g e Q q => by
  obtain ⟨⟨x, s1⟩, h1, e⟩ := bnd e
  cases x with
  | xc c f d =>
    cases e
    exact h dk H0 F0 F σ H env st _ s1 g h1 _ q
  | ok d =>
    obtain ⟨⟨xs, s2⟩, h2, e⟩ := mpd e
    refine h dk H0 F0 F σ H env st _ s1 g h1 _ fun v F1 H1 x1 g1 r1 => ?_
    cases xs with
    | ok ds =>
      cases e
      exact hr dk H0 F0 F1 σ H1 env s1 _ s2 g1 h2 _ fun vs F2 H2 x2 g2 r2 => q (v :: vs) F2 H2 (x1.trans x2) g2 (.cons (r1.mono x2.f) r2)
    | xc c f d =>
      cases e
      exact hr dk H0 F0 F1 σ H1 env s1 _ s2 g1 h2 _ (Xw.mono q x1)
/-- a def that raises -/
def callX (m : MFX) (a : MAX) : MEX := fun env st => (a env st).bind fun p => match p.1 with
  | .ok ds => m ds p.2
  | .xc c g x => some (.xc c g x, p.2)
theorem ix_call {n : Nat} {m : MFX} {ta : TA} {a : MAX} (ha : ImAX K mg W ta a) (hn : ∀ env st ds s, a env st = some (.ok ds, s) → ds.length = n) : ImEX K mg W (tCallS (spX K mg n m) (WE W) ta) (callX m a) := fun dk H0 F0 F σ H env st r st' g e Q q => by
  obtain ⟨⟨x, s1⟩, h1, e⟩ := bnd e
  cases x with
  | xc c f d =>
    cases e
    exact ha dk H0 F0 F σ H env st _ s1 g h1 _ q
  | ok ds =>
    refine ha dk H0 F0 F σ H env st _ s1 g h1 _ fun vs F1 H1 x1 g1 r1 => ?_
    refine ⟨r1.length.trans (hn _ _ _ _ h1), dk, F1, ds, s1, r, st', g1.wd, r1, e, ?_⟩
    cases r with
    | ok d => exact fun v F' H' x w r => q v F' H' (x1.trans x) (g1.step x w) r
    | xc c f d => exact Xw.mono q x1
/-- a def that does not raise, its arguments may -/
def calDX (m : MF) (a : MAX) : MEX := fun env st => (a env st).bind fun p => match p.1 with
  | .ok ds => (m ds p.2).map fun q => (.ok q.1, q.2)
  | .xc c g x => some (.xc c g x, p.2)
theorem ix_callD {n : Nat} {m : MF} {ta : TA} {a : MAX} {E : XK} (ha : ImAX K mg W ta a) (hn : ∀ env st ds s, a env st = some (.ok ds, s) → ds.length = n) : ImEX K mg W (tCall (spD K n m) [] E ta) (calDX m a) := fun dk H0 F0 F σ H env st r st' g e Q q => by
  obtain ⟨⟨x, s1⟩, h1, e⟩ := bnd e
  cases x with
  | xc c f d =>
    cases e
    exact ha dk H0 F0 F σ H env st _ s1 g h1 _ q
  | ok ds =>
    obtain ⟨⟨d, s2⟩, h2, e⟩ := mpd e
    cases e
    refine ha dk H0 F0 F σ H env st _ s1 g h1 _ fun vs F1 H1 x1 g1 r1 => ?_
    rw [List.append_nil]
    exact ⟨r1.length.trans (hn _ _ _ _ h1), dk, F1, ds, s1, d, s2, g1.wd, r1, h2, fun v F' H' x w r => q v F' H' (x1.trans x) (g1.step x w) r⟩
/-- o.m(..) that raises -/
def tMethS (C : Addr) (m : Str) (sp : Sp) (E : L2.St → XK) (ta : TE) (t : TA) : TE := fun σ H Q => ta σ H fun x H1 => ∃ a dx fs, x = .ref a ∧ H1 a = some (.ins C dx fs) ∧ fs.lookup m = none ∧
  t σ H1 fun vs H2 => sp (x :: vs) H2 Q (E σ)
def metX (c m : Str) (mf : MFX) (fo : ME) (a : MAX) : MEX := fun env st => (fo env st).bind fun p => (refOf p.1).bind fun n => (insAt [c] p.2 n).bind fun z => if m ∉ z.2.1 then (a env p.2).bind fun q => match q.1 with
  | .ok ds => mf (p.1 :: ds) q.2
  | .xc c g x => some (.xc c g x, q.2)
  else none
theorem ix_meth {c m : Str} {C : Addr} {n : Nat} {mf : MFX} {to : TE} {ta : TA} {fo : ME} {a : MAX} (hC : clsOf K c = some C) (ho : Im K to fo) (ha : ImAX K mg W ta a) (hn : ∀ env st ds s, a env st = some (.ok ds, s) → ds.length = n) : ImEX K mg W (tMethS C m (spX K mg (n + 1) mf) (WE W) to ta) (metX c m mf fo a) := fun dk H0 F0 F σ H env st r st' g e Q q => by
  obtain ⟨⟨x, s1⟩, e1, e⟩ := bnd e
  obtain ⟨j, e2, e⟩ := bnd e
  obtain ⟨z, e3, e⟩ := bnd e
  split at e
  · rename_i hm
    obtain ⟨⟨y, s2⟩, e4, e⟩ := bnd e
    refine ho dk H0 F0 F σ H env st x s1 g e1 _ fun v F1 H1 x1 g1 r1 => ?_
    have hx : x = .ref j := refOf_eq e2
    subst hx
    obtain ⟨b, rfl, hb⟩ := r1.refn
    obtain ⟨C', dx, vs, h1, h2, h3, h4⟩ := g1.wd.insAt hb e3
    have hz : z.1 = c := List.mem_singleton.mp (insAt_eq e3).2
    rw [hz, hC] at h1
    cases h1
    refine ⟨b, dx, _, rfl, h2, look_none hm, ?_⟩
    cases y with
    | xc c f d =>
      cases e
      exact ha dk H0 F0 F1 σ H1 env s1 _ s2 g1 e4 _ (Xw.mono q x1)
    | ok ds =>
      refine ha dk H0 F0 F1 σ H1 env s1 _ s2 g1 e4 _ fun us F2 H2 x2 g2 r2 => ?_
      refine ⟨by rw [List.length_cons, r2.length.trans (hn _ _ _ _ e4)], dk, F2, .ref j :: ds, s2, r, st', g2.wd, .cons (r1.mono x2.f) r2, e, ?_⟩
      cases r with
      | ok d => exact fun v F' H' x w r => q v F' H' ((x1.trans x2).trans x) (g2.step x w) r
      | xc c f d => exact Xw.mono q (x1.trans x2)
  · cases e
/-- o.m(..) that does not raise, its arguments may -/
def metDX (c m : Str) (mf : MF) (fo : ME) (a : MAX) : MEX := fun env st => (fo env st).bind fun p => (refOf p.1).bind fun n => (insAt [c] p.2 n).bind fun z => if m ∉ z.2.1 then (a env p.2).bind fun q => match q.1 with
  | .ok ds => (mf (p.1 :: ds) q.2).map fun r => (.ok r.1, r.2)
  | .xc c g x => some (.xc c g x, q.2)
  else none
theorem ix_methD {c m : Str} {C : Addr} {n : Nat} {mf : MF} {to : TE} {ta : TA} {fo : ME} {a : MAX} {E : XK} (hC : clsOf K c = some C) (ho : Im K to fo) (ha : ImAX K mg W ta a) (hn : ∀ env st ds s, a env st = some (.ok ds, s) → ds.length = n) : ImEX K mg W (tMeth C m (spD K (n + 1) mf) [] E to ta) (metDX c m mf fo a) := fun dk H0 F0 F σ H env st r st' g e Q q => by
  obtain ⟨⟨x, s1⟩, e1, e⟩ := bnd e
  obtain ⟨j, e2, e⟩ := bnd e
  obtain ⟨z, e3, e⟩ := bnd e
  split at e
  · rename_i hm
    obtain ⟨⟨y, s2⟩, e4, e⟩ := bnd e
    refine ho dk H0 F0 F σ H env st x s1 g e1 _ fun v F1 H1 x1 g1 r1 => ?_
    have hx : x = .ref j := refOf_eq e2
    subst hx
    obtain ⟨b, rfl, hb⟩ := r1.refn
    obtain ⟨C', dx, vs, h1, h2, h3, h4⟩ := g1.wd.insAt hb e3
    have hz : z.1 = c := List.mem_singleton.mp (insAt_eq e3).2
    rw [hz, hC] at h1
    cases h1
    refine ⟨b, dx, _, rfl, h2, look_none hm, ?_⟩
    cases y with
    | xc c f d =>
      cases e
      exact ha dk H0 F0 F1 σ H1 env s1 _ s2 g1 e4 _ (Xw.mono q x1)
    | ok ds =>
      obtain ⟨⟨d, s3⟩, e5, e⟩ := mpd e
      cases e
      refine ha dk H0 F0 F1 σ H1 env s1 _ s2 g1 e4 _ fun us F2 H2 x2 g2 r2 => ?_
      rw [List.append_nil]
      exact ⟨by rw [List.length_cons, r2.length.trans (hn _ _ _ _ e4)], dk, F2, .ref j :: ds, s2, d, s3, g2.wd, .cons (r1.mono x2.f) r2, e5, fun v F' H' x w r => q v F' H' ((x1.trans x2).trans x) (g2.step x w) r⟩
  · cases e
/-- f if c else h -/
def ifEX (c : MT) (f h : MEX) : MEX := fun env st => (c env st).bind fun p => if p.1 then f env p.2 else h env p.2
theorem ix_if {t : TT} {ta tb : TE} {c : MT} {f h : MEX} (h0 : ImT K t c) (h1 : ImEX K mg W ta f) (h2 : ImEX K mg W tb h) : ImEX K mg W (tIf t ta tb) (ifEX c f h) := fun dk H0 F0 F σ H env st r st' g e Q q => by
  obtain ⟨⟨x, s1⟩, e1, e⟩ := bnd e
  refine h0 dk H0 F0 F σ H env st x s1 g e1 _ fun F1 H1 x1 g1 => ?_
  cases r with
  | ok d =>
    cases x with
    | true => exact h1 dk H0 F0 F1 σ H1 env s1 _ st' g1 e Q fun v F2 H2 x2 g2 r2 => q v F2 H2 (x1.trans x2) g2 r2
    | false => exact h2 dk H0 F0 F1 σ H1 env s1 _ st' g1 e Q fun v F2 H2 x2 g2 r2 => q v F2 H2 (x1.trans x2) g2 r2
  | xc c g d =>
    cases x with
    | true => exact h1 dk H0 F0 F1 σ H1 env s1 _ st' g1 e Q (Xw.mono q x1)
    | false => exact h2 dk H0 F0 F1 σ H1 env s1 _ st' g1 e Q (Xw.mono q x1)
theorem anx_nil : ∀ env st ds s, puA aNil env st = some (.ok ds, s) → ds.length = 0 := fun env st ds s h => by cases h; rfl
theorem anx_pu {f : MA} {n : Nat} (h : ∀ env st p, f env st = some p → p.1.length = n) : ∀ env st ds s, puA f env st = some (.ok ds, s) → ds.length = n := fun env st ds s e => by
  obtain ⟨⟨d, s1⟩, e1, e⟩ := mpd e
  cases e
  exact h _ _ _ e1
theorem anx_cons {f : MEX} {a : MAX} {n : Nat} (h : ∀ env st ds s, a env st = some (.ok ds, s) → ds.length = n) : ∀ env st ds s, consX f a env st = some (.ok ds, s) → ds.length = n + 1 := fun env st ds s e => by
  obtain ⟨⟨x, s1⟩, h1, e⟩ := bnd e
  cases x with
  | xc c f d => cases e
  | ok d =>
    obtain ⟨⟨xs, s2⟩, h2, e⟩ := mpd e
    cases xs with
    | ok ds => cases e; simp [h _ _ _ _ h2]
    | xc c f d => cases e
end
/-! ### statements of them, in a def that raises -/
section
variable {K : Fg} {mg : Str → Option Value} {W : XK}
def retX (f : MEX) : MSX := fun env st => (f env st).map fun p => match p.1 with
  | .ok d => (.fl (.rt d), p.2)
  | .xc c g x => (.xc c g x, p.2)
theorem isx_ret {te : TE} {f : MEX} (h : ImEX K mg (fun cls d _ H => W cls d H) te f) : ImSX K mg W (tRet te) (retX f) := fun dk H0 F0 F σ H env st r st' g e E hd => by
  obtain ⟨⟨x, s1⟩, e1, e⟩ := mpd e
  cases x with
  | ok d =>
    cases e
    exact h dk H0 F0 F σ H env st _ s1 g e1 _ fun v F1 H1 x1 g1 r1 => hd v F1 H1 g1.ext g1.wd r1
  | xc c f d =>
    cases e
    exact h dk H0 F0 F σ H env st _ s1 g e1 _ (Xw.mono hd g.ext)
def asgX (t : MG) (f : MEX) : MSX := fun env st => (f env st).bind fun p => match p.1 with
  | .ok d => (t d env).map fun e => (.fl (.nx e), p.2)
  | .xc c g x => some (.xc c g x, p.2)
theorem isx_asg {te : TE} {g : TG} {t : MG} {f : MEX} {is : List Nat} (h : ImEX K mg (fun cls d _ H => W cls d H) te f) (hg : ImG K g t is) : ImSX K mg W (tAsg te g) (asgX t f) := fun dk H0 F0 F σ H env st r st' gd e E hd => by
  obtain ⟨⟨x, s1⟩, e1, e⟩ := bnd e
  cases x with
  | ok d =>
    obtain ⟨en, e2, e⟩ := mpd e
    cases e
    refine h dk H0 F0 F σ H env st _ s1 gd e1 _ fun v F1 H1 x1 g1 r1 => ?_
    exact hg dk H0 F0 F1 σ H1 env s1 v d en g1 r1 e2 _ fun σ' g2 _ => hd F1 σ' H1 x1.f g2
  | xc c f d =>
    cases e
    exact h dk H0 F0 F σ H env st _ s1 gd e1 _ (Xw.mono hd gd.ext)
def drpX (f : MEX) : MSX := fun env st => (f env st).map fun p => match p.1 with
  | .ok _ => (.fl (.nx env), p.2)
  | .xc c g x => (.xc c g x, p.2)
theorem isx_drop {te : TE} {f : MEX} (h : ImEX K mg (fun cls d _ H => W cls d H) te f) : ImSX K mg W (tDrop te) (drpX f) := fun dk H0 F0 F σ H env st r st' g e E hd => by
  obtain ⟨⟨x, s1⟩, e1, e⟩ := mpd e
  cases x with
  | ok d =>
    cases e
    exact h dk H0 F0 F σ H env st _ s1 g e1 _ fun v F1 H1 x1 g1 r1 => hd F1 σ H1 x1.f g1
  | xc c f d =>
    cases e
    exact h dk H0 F0 F σ H env st _ s1 g e1 _ (Xw.mono hd g.ext)
end
/-! ### methods that raise -/
section
variable {X : Cx} {j k : Nat} {f : Addr} {fd : FuncData} {ps : List Str} {sp : Sp} {c m : Str} {C : Addr} {p pos apos : Pos} {e o : Expr} {es : List Expr} {ta : TE} {t : TA} {E : L2.St → XK}
theorem runX_ok {pins : List (Addr × Obj)} {σ : L2.St} {H : Hp} {s : Shared} {Q : VK} {us : List Value} {vs : List V} {E : XK} (F : FnX X.prog X.w X.K X.mg X.base k f fd ps sp) (hr : Room k X.A) (gd : X.A.guards = some []) (hb : Binds X.K fd ps []) (hx : PassesAt (L2.CX X.prog X.w) X σ E)
    (I : L2.Inv X pins σ H s) (r : Vals vs us) (q : sp vs H Q E) : wpAny (model X.prog X.w) X.A (call (.ref f) us) (EP X pins σ Q) X.xe s := by
  have hl : us.length = ps.length := r.length.symm.trans (F.len _ _ _ _ q)
  have bb := hb s us I.kIn (by rw [List.append_nil]; exact hl)
  rw [List.append_nil] at bb
  refine wpAny_call (codeAny_mono (F.run X.A X.stack s H ⟨us, []⟩ us vs Q E hr gd I.env0 bb r q) fun rr s' hq => ?_)
  cases rr with
  | error er => exact hx pins H s er s' I hq
  | ok fl =>
    cases fl with
    | ret u => exact I.after hq
    | next => exact False.elim hq
    | brk => exact False.elim hq
    | cont => exact False.elim hq
theorem pe_methX {pl : Sem Bool} (he : PE X o ta) (c : Cls X.K C) (hm : Meth X.K C m f) (F : FnX X.prog X.w X.K X.mg X.base k f fd ps sp) (hr : Room k X.A) (gd : X.A.guards = some []) (hb : Binds X.K fd ps []) (hx : ∀ σ, PassesAt (L2.CX X.prog X.w) X σ (E σ)) (ha : PA X (e :: es) t)
    (hst : starEach (e :: es) X.env = (false, eval e X.env) :: starEach es X.env := by rfl) (hpl : (backTo pos (starEach es X.env)).any (·.1) = false := by rfl)
    (ht : eval (.Call (.Attribute o m apos) (e :: es) [] pos) X.env = (do
      let ov ← eval o X.env
      standAt apos.atName
      let (f, first) ← holding [ov] (getMethod ov m pl)
      callWith pos f first (backTo pos (starEach (e :: es) X.env)) (backToKw pos (keywordEach [] X.env))) := by rfl) :
    PE X (.Call (.Attribute o m apos) (e :: es) [] pos) (tMethS C m sp E ta t) := by
  refine ⟨fun pins s σ H Q I h => ?_⟩
  refine PySem.W.methodCall_KW (pl := pl) (thn (he.run pins s σ H _ I h) fun u s1 ⟨x, H1, I1, rx, a, dx, fs, ex, ea, l, q⟩ => ?_) ht
  subst ex
  obtain rfl : u = Value.ref a := rx
  refine getmeth_ok I1 ea c hm l ?_
  refine PySem.W.callWith_K (first := [.ref a]) (h₀ := X.base) I.ok.mod.kin hm.kp (thn (ha.run pos pins s1 σ H1 _ I1 q) fun us s2 ⟨vs, H2, I2, r, q2⟩ => ⟨I2.kIn, ?_⟩) hst hpl
  exact runX_ok (us := .ref a :: us) (vs := .ref a :: vs) F hr gd hb (hx σ) I2 (.cons rfl r) q2
theorem pe_methX0 {pl : Sem Bool} (he : PE X o ta) (c : Cls X.K C) (hm : Meth X.K C m f) (F : FnX X.prog X.w X.K X.mg X.base k f fd ps sp) (hr : Room k X.A) (gd : X.A.guards = some []) (hb : Binds X.K fd ps []) (hx : ∀ σ, PassesAt (L2.CX X.prog X.w) X σ (E σ))
    (ht : eval (.Call (.Attribute o m apos) [] [] pos) X.env = (do
      let ov ← eval o X.env
      standAt apos.atName
      let (f, first) ← holding [ov] (getMethod ov m pl)
      callWith pos f first (backTo pos (starEach [] X.env)) (backToKw pos (keywordEach [] X.env))) := by rfl) :
    PE X (.Call (.Attribute o m apos) [] [] pos) (tMethS C m sp E ta tNil) := by
  refine ⟨fun pins s σ H Q I h => ?_⟩
  refine PySem.W.methodCall_KW (pl := pl) (thn (he.run pins s σ H _ I h) fun u s1 ⟨x, H1, I1, rx, a, dx, fs, ex, ea, l, q⟩ => ?_) ht
  subst ex
  obtain rfl : u = Value.ref a := rx
  refine getmeth_ok I1 ea c hm l ?_
  exact PySem.W.callWith_K0 (first := [.ref a]) I1.kIn hm.kp (runX_ok (us := [.ref a]) (vs := [.ref a]) F hr gd hb (hx σ) I1 (.cons rfl .nil) q)
def CalMX (P : Program) (w : World) (K : Fg) (mg : Str → Option Value) (base : Heap) (k : Nat) (c m : Str) (ps : List Str) (sp : Sp) : Prop :=
  ∃ C : Addr, clsOf K c = some C ∧ Cls K C ∧ ∃ f fd, FnX P w K mg base k f fd ps sp ∧ Meth K C m f ∧ Binds K fd ps []
theorem pe_methXC {pl : Sem Bool} (M : CalMX X.prog X.w X.K X.mg X.base j c m ps sp) (hr : Room k X.A) (gd : X.A.guards = some []) (hx : ∀ σ, PassesAt (L2.CX X.prog X.w) X σ (E σ)) (he : PE X o ta) (ha : PA X (e :: es) t) (hj : j ≤ k := by decide)
    (hst : starEach (e :: es) X.env = (false, eval e X.env) :: starEach es X.env := by rfl) (hpl : (backTo pos (starEach es X.env)).any (·.1) = false := by rfl)
    (ht : eval (.Call (.Attribute o m apos) (e :: es) [] pos) X.env = (do
      let ov ← eval o X.env
      standAt apos.atName
      let (f, first) ← holding [ov] (getMethod ov m pl)
      callWith pos f first (backTo pos (starEach (e :: es) X.env)) (backToKw pos (keywordEach [] X.env))) := by rfl) :
    PE X (.Call (.Attribute o m apos) (e :: es) [] pos) (tMethS M.choose m sp E ta t) := by
  obtain ⟨_, cl, f, fd, F, hm, hb⟩ := M.choose_spec
  exact pe_methX he cl hm F (hr.mono hj) gd hb hx ha hst hpl ht
theorem pe_methXC0 {pl : Sem Bool} (M : CalMX X.prog X.w X.K X.mg X.base j c m ps sp) (hr : Room k X.A) (gd : X.A.guards = some []) (hx : ∀ σ, PassesAt (L2.CX X.prog X.w) X σ (E σ)) (he : PE X o ta) (hj : j ≤ k := by decide)
    (ht : eval (.Call (.Attribute o m apos) [] [] pos) X.env = (do
      let ov ← eval o X.env
      standAt apos.atName
      let (f, first) ← holding [ov] (getMethod ov m pl)
      callWith pos f first (backTo pos (starEach [] X.env)) (backToKw pos (keywordEach [] X.env))) := by rfl) :
    PE X (.Call (.Attribute o m apos) [] [] pos) (tMethS M.choose m sp E ta tNil) := by
  obtain ⟨_, cl, f, fd, F, hm, hb⟩ := M.choose_spec
  exact pe_methX0 he cl hm F (hr.mono hj) gd hb hx ht
end
section
variable {P : Program} {w : World} {K : Fg} {mg mg' : Str → Option Value} {base : Heap} {j n : Nat} {c m : Str} {ps : List Str} {W : WX} {to : TE} {ta : TA} {fo : ME} {a : MAX}
theorem ix_methC {mf : MFX} (C : CalMX P w K mg base j c m ps (spX K mg' (n + 1) mf)) (ho : Im K to fo) (ha : ImAX K mg' W ta a) (hn : ∀ env st ds s, a env st = some (.ok ds, s) → ds.length = n) : ImEX K mg' W (tMethS C.choose m (spX K mg' (n + 1) mf) (WE W) to ta) (metX c m mf fo a) := ix_meth C.choose_spec.1 ho ha hn
theorem ix_methDC {mf : MF} {E : XK} (C : CalM P w K mg base j c m ps (spD K (n + 1) mf)) (ho : Im K to fo) (ha : ImAX K mg' W ta a) (hn : ∀ env st ds s, a env st = some (.ok ds, s) → ds.length = n) : ImEX K mg' W (tMeth C.choose m (spD K (n + 1) mf) [] E to ta) (metDX c m mf fo a) := ix_methD C.choose_spec.1 ho ha hn
end
/-! ### found = [s, e], two clauses: found = [t, n.field] -/
def tTry2X (K : Fg) (tx : WX → TE) (s : Str) (j e : Nat) (C1 : Addr) (f1 t1 : Str) (C2 : Addr) (f2 t2 : Str) : TS := fun D σ H =>
  (fun W : WX => tAsg (tLst (tCons (tC (.str s)) (tCons (tx W) tNil))) (gName j)) (wManyAs K (fun _ _ _ _ => False) D [(.ref C1, e, suT C1 f1 t1 j e), (.ref C2, e, suT C2 f2 t2 j e)]) D σ H
def try2X (fx : MEX) (s : Str) (j e : Nat) (c1 f1 t1 c2 f2 t2 : Str) : MS := fun env st => (fx env st).bind fun p => match p.1 with
    | .ok x => some (.nx (env.set j (.val (.lst [.str s, x]))), p.2)
    | .xc c f x => if e < env.length ∧ c = c1 ∧ f = f1 then some (.nx (((env.set e .un).set j (.val (.lst [.str t1, x]))).set e .un), p.2)
      else if e < env.length ∧ c = c2 ∧ f = f2 ∧ c ≠ c1 then some (.nx (((env.set e .un).set j (.val (.lst [.str t2, x]))).set e .un), p.2) else none
section
variable {K : Fg}
theorem is_try2X {mg : Str → Option Value} {tx : WX → TE} {fx : MEX} {s : Str} {j e : Nat} {c1 f1 t1 c2 f2 t2 : Str} {C1 C2 : Addr} (hx : ∀ W, ImEX K mg W (tx W) fx) (h1 : mg c1 = some (.ref C1)) (h2 : mg c2 = some (.ref C2)) (x11 : PySem.W.exmOne K (.ref C1) (.ref C1) = some true) (x21 : PySem.W.exmOne K (.ref C2) (.ref C1) = some false) (x22 : PySem.W.exmOne K (.ref C2) (.ref C2) = some true) :
    ImS K (tTry2X K tx s j e C1 f1 t1 C2 f2 t2) (try2X fx s j e c1 f1 t1 c2 f2 t2) := fun dk H0 F0 F σ H env st fl st' g ee E hd => by
  have sz : (2 : Nat) ≤ sizeLine := by decide
  obtain ⟨⟨r, s1⟩, e1, e2⟩ := bnd ee
  clear ee
  -- a clause
  have clause : ∀ {C dx : Addr} {f t : Str} {x : D} {v' : V} {F' : Fz} {H' : Hp} {a : Addr}, fl = .nx (((env.set e .un).set j (.val (.lst [.str t, x]))).set e .un) → st' = s1 → e < env.length → Ext dk F H F' H' → Wd K dk F' H' s1 → Rp K dk F' v' x → H' dx = some (.xd [(f, v')]) →
      suT C f t j e a (.ref C) (some dx) (offE e E) (σ.set e (some (.ref a))) H' := fun {C dx f t x v' F' H' a} ef es hl x w rp hx => by
    subst ef es
    have hg : (σ.set e (some (.ref a)))[e]? = some (some (.ref a)) := List.getElem?_set_self (by rw [g.len]; exact hl)
    have g1 := (g.step x w).unset (i := e) (y := some (.ref a))
    refine ⟨_, hg, rfl, rfl, dx, v', rfl, hx, sz, fun p hp => ?_⟩
    obtain ⟨F2, le, g2⟩ := g1.pair (j := j) (.str t) rp hp
    exact hd F2 _ _ (x.f.trans le) (g2.unset (i := e) (y := none))
  refine hx (wManyAs K (fun _ _ _ _ => False) E [(.ref C1, e, suT C1 f1 t1 j e), (.ref C2, e, suT C2 f2 t2 j e)]) dk H0 F0 F σ H env st r s1 g e1 _ ?_
  cases r with
  | ok x =>
    cases e2
    exact fun v' F' H' x g1 rp => ⟨sz, fun p hp => by
      obtain ⟨F2, le, g2⟩ := g1.pair (j := j) (.str s) rp hp
      exact hd F2 _ _ (x.f.trans le) g2⟩
  | xc c f x =>
    dsimp only at e2
    intro C dx v' F' H' hm xx w rp hx
    split at e2
    · rename_i hc
      obtain ⟨hl, rfl, rfl⟩ := hc
      cases e2
      rw [h1] at hm
      cases hm
      exact ⟨true, x11, fun _ a ha => clause rfl rfl hl xx w rp hx, fun z => nomatch z⟩
    · split at e2
      · rename_i hc
        obtain ⟨hl, rfl, rfl, _⟩ := hc
        cases e2
        rw [h2] at hm
        cases hm
        exact ⟨false, x21, (fun z => nomatch z), fun _ => ⟨true, x22, fun _ a ha => clause rfl rfl hl xx w rp hx, fun z => nomatch z⟩⟩
      · cases e2
end
end MD

set_option Elab.async false
set_option linter.all false
set_option maxRecDepth 100000
set_option maxHeartbeats 2000000
namespace MD
open PySem PySem.Spec PyProof.Rows L2
open PySem.Builtin PySem.Builtin.ObjectAttr
variable {ww : WW}
/-! ### own classes over LookupError, with one field -/
abbrev leT : List Value := [.type "LookupError", .type "Exception", .type "BaseException", .type "object"]
structure OlxC (K : Fg) (C : Addr) : Prop where
  cls : ∃ nm q N bs sn sub ab col dd k0 k1 k2 k3 k5, K.lookup C = some (excClassObj nm q C N bs leT true sn sub ab col dd k0 k1 k2 k3 k5 "LookupError.__new__")
  sa : PySem.W.findIn K (.ref C) "__setattr__" = some (some (.builtin "object.__setattr__"))
  exC : PySem.W.subIn K (.ref C) (.type "BaseException") = some true
  tyC : PySem.W.typeIn K (.ref C) = some (.type "type")
  kC : PySem.W.keepIn K (.ref C) = true
section
variable {prog : Program} {w : World} {A : Around} {R : Result → Shared → Prop} {hp : Heap} {g : Array GenState} {d : Drawn} {t : Nat} {os : OsState}
/-- object.__setattr__ lays the first field of such an exception -/
theorem le_set {K : Fg} {name : Str} {tk : Tok} {v : Value} {x C : Addr} {fv : Array Value} {cd : ClassData}
    (X : K.In hp) (hx : hp.get? x = some { cls := .ref C, data := .fields fv }) (hcd : PySem.W.clsIn K C = some cd) (hm : cd.mro = .ref C :: leT) (hh : cd.hasDict = true) (ha : PySem.W.findIn K (.ref C) name = some none)
    (hq : ∀ h' tk' dx, (∀ b o, b ≠ x → hp.get? b = some o → h'.get? b = some o) → hp.objs.size ≤ dx → dx ≠ x → h'.get? x = some { cls := .ref C, dict := some dx, data := .fields fv } →
      h'.Ns1 dx (fun y => if y = name then some v else none) → R (.ok (.ret .none)) ⟨h', g, d, tk', os⟩) :
    codeAny (model prog w) A (.call (.builtin "object.__setattr__") ⟨[.ref x, .str name tk, v], []⟩) R ⟨hp, g, d, t, os⟩ := by
  have SF := PySem.F.store_object
  have I : PySem.W.InstAt hp x { cls := .ref C, data := .fields fv } C none := ⟨hx, rfl, rfl, trivial⟩
  have hmo : PySem.W.mroIn K C (.type "object") = some true := by
    unfold PySem.W.mroIn
    rw [hcd, Option.bind_some, hm]
    rfl
  have xs : x ≠ hp.objs.size := Nat.ne_of_lt (Heap.lt_size hx)
  have lc : PySem.W.Looks (model prog w) hp (classData C) cd := PySem.W.looks_clsIn X hcd
  have lm : PySem.W.Looks (model prog w) hp (mroOf (.ref C)) cd.mro := (PySem.W.looks_clsIn X hcd).andThen .now
  have ln : PySem.W.Looks (model prog w) hp (storeTaker? none) none := .now
  refine codeAny_call_builtin SF.slot.plain SF.entry (@PySem.W.check_slot (model prog w) _ _ ⟨hp, g, d, t, os⟩ "object.__setattr__" "object" "__setattr__" (.ref x) [.str name tk, v] [] _ SF.kind SF.split (I.type.andThen (PySem.W.looks_mroIn X hmo)) (SF.args (.ref x) (.str name tk) v) ?_)
  rw [PySem.W.osa_eq, refuse_eq]
  refine wpAny_bind (wpAny_bind (I.type.at (wpAny_bind (lm.at ?_))))
  rw [hm, refuseLoop_ref, PySem.F.store_LookupError.passes (.ref x)]
  refine wpAny_pure (wpAny_bind (I.type.at (wpAny_bind ((PySem.W.looks_findIn X ha).at (wpAny_bind (ln.at ?_))))))
  show wpAny _ _ (storeInOwnDict (.ref x) (.ref C) (.str name tk) name v false) _ _ _
  obtain ⟨nm, bs, mro, ns, qn, hd, sn, sb, ab, col, del⟩ := cd
  dsimp only at hh
  subst hh
  unfold storeInOwnDict ownDictForStores
  repeat (first | with_reducible refine PySem.HandSPX.store_in_new ?_ ?_ | with_reducible refine wpAny_loadPart_at hx ?_ | with_reducible refine lc.at ?_ | wp_step)
  · exact ⟨_, #[], _, (Heap.get?_update_ne _ _ _ _ xs.symm).trans (Heap.get?_push_at rfl rfl), rfl, fun e he => absurd he (by simp), fun _ => rfl⟩
  · intro h' tk' hn hs
    have hx1 : (hp.push { cls := .type "dict", data := .dict #[] }).get? x = some { cls := .ref C, data := .fields fv } := Heap.get?_push_of_some _ hx
    refine hq h' tk' hp.objs.size (fun b o hb ho => ?_) (Nat.le_refl _) xs.symm ?_ hn
    · exact (hs.2 b (Nat.ne_of_lt (Heap.lt_size ho))).trans ((Heap.get?_update_ne _ _ _ _ hb).trans (Heap.get?_push_of_some _ ho))
    · exact (hs.2 x xs).trans (Heap.get?_update_self _ hx1 rfl)
end
theorem le_ct (Y : String) : leT.contains (.type Y) = leT.contains (.type Y) := rfl
section
variable {X : Cx} {pins : List (Addr × Obj)} {σ : L2.St} {H : Hp} {s : Shared} {a C dx : Addr} {f : Str} {y : V} {u : Value} {fs : List (Str × V)} {E : Value → Shared → Prop} {A : Around}
theorem le_new {Q : Unit → Shared → Prop} (T : OlxC X.K C) (I : L2.Inv X pins σ H s) (e : H a = some (exo a C none)) (hno : PySem.W.findIn X.K (.ref C) f = some none) (ry : RelV y u)
    (h : ∀ dx s', H dx = none → dx ≠ a → L2.Inv X pins σ (upd (upd H dx (exd dx [(f, y)])) a (exo a C (some dx))) s' → Q () s') : wpAny (model X.prog X.w) A (setAttr (.ref a) f u) Q E s := by
  obtain ⟨nm, q, N, bs, sn, sub, ab, col, dd, k0, k1, k2, k3, k5, hC⟩ := T.cls
  have hcl : PySem.W.clsIn X.K C = some { name := nm, bases := bs, mro := .ref C :: leT, ns := N, qualname := q, hasDict := true, slotNames := sn, subclasses := sub, abstract := ab, collection := col, hasDel := false } := by unfold PySem.W.clsIn; rw [hC] <;> rfl
  obtain ⟨t1, ho⟩ := exo_at I.hok e
  obtain ⟨hp, g, d, t, os⟩ := s
  refine PySem.W.set_plain I.kIn (ox := { cls := .ref C, dict := none, data := .fields #[.ref t1, .none, .none, .none, .bool false, .none] }) (od := none) ⟨ho, rfl, rfl, trivial⟩ T.sa ?_
  refine le_set I.kIn ho hcl rfl rfl hno (fun h' tk' dx k dn dne hx hn => ?_)
  have hnd : H dx = none := I.hok.fresh dn
  have nd : ∀ {b : Addr} {o : Obj}, hp.get? b = some o → b ≠ dx := fun {b o} q => Nat.ne_of_lt (Nat.lt_of_lt_of_le (Heap.lt_size q) dn)
  have na : ∀ {b : Addr}, H b = none → b ≠ a := fun {b} n z => by rw [z, e] at n; cases n
  have Un1 : Un X.fs [] H (upd (upd H dx (exd dx [(f, y)])) a (exo a C (some dx))) hp h' := {
    keep := fun b o q n _ _ => k b o (na n) q
    slot := fun b o q n _ _ => ⟨o.slots, k b o (na n) q⟩
    free := fun b o q n _ => by rw [upd_ne (na n), upd_ne (nd q)]; exact n
    there := fun b o q _ => by
      by_cases hb : b = a
      · subst hb; exact ⟨_, hx⟩
      · exact ⟨o, k b o hb q⟩
    tups := fun b xs q => by rw [upd_ne (L2.at_ne e q exo_tup), upd_ne (ne_of_none q hnd)]; exact q
    frzs := fun b o v q => by rw [upd_ne (L2.at_ne e q exo_frz), upd_ne (ne_of_none q hnd)]; exact q
    tbls := fun b ps q => ⟨#[], by rw [upd_ne (L2.at_ne e q exo_tbl), upd_ne (ne_of_none q hnd), q]; simp⟩ }
  refine h dx _ hnd dne (I.un (t' := tk') Un1 fun b o q => ?_)
  by_cases hb : b = a
  · subst hb
    rw [upd_same] at q
    cases q
    exact exo_ok hx
  · rw [upd_ne hb] at q
    by_cases hd : b = dx
    · subst hd
      rw [upd_same] at q
      cases q
      exact exd_ok hn (relO_put (fs := []) ry fun g => True.intro)
    · rw [upd_ne hd] at q
      refine (I.hok b o q).stay (fun c v hc z => k c v ?_ z) (fun c hc => by rw [upd_ne (L2.at_ne e hc exo_own), upd_ne (ne_of_none hc hnd)]; exact hc) (fun c xs hc => by rw [upd_ne (L2.at_ne e hc exo_tup), upd_ne (ne_of_none hc hnd)]; exact hc)
      rcases hc with hc | hc
      · rw [hc]; exact hb
      · exact L2.at_ne e hc exo_own
theorem le_init {us : List Value} {Q : Value → Shared → Prop} (T : OlxC X.K C) (I : L2.Inv X pins σ H s) (e : H a = some (exo a C none)) (hl : us.length ≤ sizeLine) (h : ∀ s', L2.Inv X pins σ H s' → Q .none s') :
    wpAny (model X.prog X.w) A (call (.builtin "LookupError.__init__") (.ref a :: us)) Q E s := by
  obtain ⟨nm, q, N, bs, sn, sub, ab, col, dd, k0, k1, k2, k3, k5, hC⟩ := T.cls
  obtain ⟨t1, ho⟩ := exo_at I.hok e
  obtain ⟨hp, g, d, t, os⟩ := s
  refine wpAny_call (PySem.HandSPX.init_base PySem.F.excBase_LookupError le_ct (I.kIn _ _ hC) ho hl fun h' t2 k hx => ?_)
  have J := I.write (t' := t) (x := a) (e := a) (o := exo a C none) (by rw [e]; exact True.intro) (.inl rfl) k ⟨_, hx⟩ (exo_ok hx)
  have eu : upd H a (exo a C none) = H := funext fun b => by
    by_cases hb : b = a
    · rw [hb, upd_same, e]
    · rw [upd_ne hb]
  rw [eu] at J
  exact h _ J
end
/-- LookupError.__init__(self, ..) -/
def tLeI (K : Fg) (ta : TA) : TE := fun σ H Q => ta σ H fun vs H1 => ∃ (a C : Addr) (ws : List V), vs = .ref a :: ws ∧ ws.length ≤ 1000 ∧ OlxC K C ∧ H1 a = some (exo a C none) ∧ Q .non H1
/-- self.f = e, the first field -/
def tLst1 (K : Fg) (f : Str) (to te : TE) : TS := fun D σ H => te σ H fun y H1 => to σ H1 fun x H2 => ∃ a C : Addr, x = .ref a ∧ OlxC K C ∧ PySem.W.findIn K (.ref C) f = some none ∧
  H2 a = some (exo a C none) ∧ ∀ dx, H2 dx = none → dx ≠ a → D.nx σ (upd (upd H2 dx (exd dx [(f, y)])) a (exo a C (some dx)))
theorem typ_LE : typeOf (.type "LookupError") = pure (.type "type") := by kernel_rfl
section
variable {X : Cx} {o e : Expr} {es : List Expr} {to te : TE} {ta : TA} {f c : Str} {p p' p1 p2 pos : Pos}
theorem pe_leinit {pl : Sem Bool} (hg : Gl X "LookupError") (hm : X.mg "LookupError" = none) (vV : PySem.W.findCls X.K (.type "LookupError") (.type "type") "__init__" = some (.val (.builtin "LookupError.__init__"))) (ha : PA X (e :: es) ta)
    (hc : eval (.Call (.Attribute (.Name "LookupError" p1) "__init__" p2) (e :: es) [] pos) X.env = (do
      let ov ← eval (.Name "LookupError" p1) X.env
      standAt p2.atName
      let (f, first) ← holding [ov] (getMethod ov "__init__" pl)
      callWith pos f first (backTo pos (starEach (e :: es) X.env)) (backToKw pos (keywordEach [] X.env))) := by rfl)
    (he : starEach (e :: es) X.env = (false, eval e X.env) :: starEach es X.env := by rfl) (hpl : (backTo pos (starEach es X.env)).any (·.1) = false := by rfl) :
    PE X (.Call (.Attribute (.Name "LookupError" p1) "__init__" p2) (e :: es) [] pos) (tLeI X.K ta) := by
  refine ⟨fun pins s σ H Q I h => ?_⟩
  refine PySem.W.methodCall_KW (ld_blt I hg hm PyProof.Rows.Boot.«LookupError» ?_ (by decide) (by decide)) hc
  obtain ⟨m, fr⟩ := I.fr
  refine PySem.W.method_type fr I.ok.mod.kin typ_LE (by decide +kernel) vV (by decide +kernel) ?_
  show wpAny _ _ (callWith pos (Value.builtin "LookupError.__init__") [] (backTo pos (starEach (e :: es) X.env)) []) _ _ _
  refine PyProof.Rows.callWith_method1 (thn (ha.run pos pins _ σ H _ (I.tok _) h) fun us s1 ⟨vs, H1, I1, r1, a, C, ws, ev, hl, T, ea, q⟩ => ?_) he hpl
  subst ev
  cases r1 with
  | @cons _ u0 _ ur ra rw' =>
    obtain rfl : u0 = Value.ref a := ra
    refine le_init T I1 ea ?_ fun s' J => ⟨.non, H1, J, rfl, q⟩
    rw [← Paired.length rw', sizeLine_eq]
    omega
theorem ps_ole (ho : PE X o to) (he : PE X e te) (hs : swapsWith e (some (.Attribute o f p')) pos.line X.env = pure false := by rfl) : PS X (.Assign [.Attribute o f p'] e pos) (tLst1 X.K f to te) := by
  refine ⟨fun pins s σ H D I h => ?_⟩
  refine plainObj_wpAny_Assign_Attribute (thn (he.run pins s σ H _ I h) fun v s1 ⟨y, H1, I1, r1, q1⟩ => thn (ho.run pins s1 σ H1 _ I1 q1) fun u s2 ⟨x, H2, I2, r2, a, C, ex, T, hno, ea, q⟩ => ?_) hs
  subst ex
  obtain rfl : u = Value.ref a := r2
  exact le_new T I2 ea hno r1 fun dx s' n ne J => ⟨σ, _, J, q dx n ne⟩
theorem pmk_ole {CX : CXT} {x : Str} {C fI : Addr} {k : Nat} {fd : FuncData} {ps : List Str} {sp : Sp} (T : OlxC X.K C) (iC : PySem.W.findIn X.K (.ref C) "__init__" = some (some (.ref fI))) (tI : PySem.W.typeIn X.K (.ref fI) = some (.type "function"))
    (F1 : FnOk X.prog X.w X.K X.mg X.base CX k fI fd ps sp) (hr : Room (k + 1) X.A) (hb : Binds X.K fd ps []) (hx : Passes CX X (fun _ _ _ => False)) (hg : Gl X x) (hm : X.mg x = some (.ref C)) (ha : PA X (e :: es) ta)
    (hdb : (x == ("__debug__" : Str)) = false := by decide) (he : starEach (e :: es) X.env = (false, eval e X.env) :: starEach es X.env := by rfl) (hpl : (backTo pos (starEach es X.env)).any (·.1) = false := by rfl) :
    PMk X (.Call (.Name x p) (e :: es) [] pos) (tMkO C sp [] ta) := by
  intro pins s σ H Q I h
  obtain ⟨nm, q, N, bs, sn, sub, ab, col, dd, k0, k1, k2, k3, k5, hC⟩ := T.cls
  refine wpAny_Call_Name_kw (ld_glob I hg hm ?_ hdb)
  refine PySem.W.callWith_K (h₀ := X.base) I.ok.mod.kin T.kC (thn (ha.run pos pins s σ H _ I h) fun us s1 ⟨vs, H1, I1, r1, hz, q1⟩ => ⟨I1.kIn, ?_⟩) he hpl
  obtain ⟨hp, g, dr, tk, os⟩ := s1
  obtain ⟨n, hn0⟩ : ∃ n, n = hp.objs.size + 1 := ⟨_, rfl⟩
  have hsz : hp.objs.size ≤ n := by omega
  have hq := q1 n (I1.hok.fresh hsz)
  rw [List.append_nil] at hq
  obtain ⟨h2, hh2⟩ : ∃ h2, h2 = (hp.push (PySem.W.kdv_tup us)).push (PySem.HandSPX.excO C hp.objs.size) := ⟨_, rfl⟩
  have kk : ∀ b o, hp.get? b = some o → h2.get? b = some o := fun b o e => by rw [hh2]; exact Heap.get?_push_of_some _ (Heap.get?_push_of_some _ e)
  have hget : h2.get? n = some (PySem.HandSPX.excO C hp.objs.size) := by rw [hh2, hn0]; heap_get
  have I2 : L2.Inv X pins σ (upd H1 n (exo n C none)) ⟨h2, g, dr, tk, os⟩ := I1.laid (t' := tk) (a := n) (o := exo n C none) (h' := h2) kk hsz (exo_ok hget)
  have r2 : Vals (V.ref n :: vs) (Value.ref n :: us) := .cons rfl r1
  have hl : (Value.ref n :: us).length = ps.length := r2.length.symm.trans (F1.len _ _ _ _ hq)
  have hus : us.length ≤ sizeLine := by
    rw [← Paired.length r1, sizeLine_eq]
    omega
  have bb := hb ⟨h2, g, dr, tk, os⟩ (Value.ref n :: us) I2.kIn (by rw [List.append_nil]; exact hl)
  rw [List.append_nil] at bb
  subst hn0 hh2
  refine wpAny_call (PySem.HandSPX.call_own PySem.F.excBase_LookupError le_ct (I1.kIn _ _ hC) (PySem.W.looks_findIn I1.kIn iC) (fun self => PySem.W.bind_fn I1.kIn self tI) hus
    (codeAny_mono (F1.run _ X.stack _ _ ⟨Value.ref (hp.objs.size + 1) :: us, []⟩ (Value.ref (hp.objs.size + 1) :: us) _ _ (fun _ _ _ => False) (hr.make C us []) (I2.env0.make C us []) bb r2 hq) fun r s' hq' => ?_))
  cases r with
  | error er => exact hx pins σ _ _ er s' I2 hq'
  | ok fl =>
    cases fl with
    | ret u =>
      obtain ⟨v, H2, os2, bare2, un2, hok2, rv, ev, d, fs, ea, ed, hd1, q2⟩ := hq'
      subst ev
      obtain ⟨h2, g2, d2, t2, os'⟩ := s'
      exact ⟨rv, mk_end (raises_own T.exC T.tyC) I1 hsz kk un2 hok2 os2 bare2 ea ed hd1 q2⟩
    | next => exact False.elim hq'
    | brk => exact False.elim hq'
    | cont => exact False.elim hq'
end
/-- LookupError.__init__(self, text); self.f = y -/
theorem exc_initL {K : Fg} {C : Addr} {f : Str} (T : OlxC K C) (hno : PySem.W.findIn K (.ref C) f = some none) {txt : Str} (vs : List V) (H : Hp) (Q : VK) (E : XK) (h : spEI C f vs H Q E) (N : List Str) (hN : N.length = 2) :
    tSeq (tDrop (tLeI K (tCons (tVar 0) (tCons (tC (.str txt)) tNil)))) (tLst1 K f (tVar 0) (tVar 1)) { nx := fun _ H' => Q .non H', rt := Q } (L2.start N vs) H := by
  obtain ⟨a, y, rfl, ha, q⟩ := h
  have h0 : (L2.start N [.ref a, y])[0]? = some (some (.ref a)) := rfl
  have h1 : (L2.start N [.ref a, y])[1]? = some (some y) := rfl
  refine ⟨_, h0, a, C, _, rfl, by simp, T, ha, ?_⟩
  exact ⟨_, h1, _, h0, a, C, rfl, T, hno, ha, fun dx hd hn => q dx hd hn⟩
structure XClsL (P : Program) (w : World) (K : Fg) (mg : Str → Option Value) (base : Heap) (c f : Str) (C : Addr) : Prop where
  g : mg c = some (.ref C)
  o : OlxC K C
  ga : PySem.W.findIn K (.ref C) "__getattribute__" = some (some (.builtin "BaseException.__getattribute__"))
  gg : PySem.W.findIn K (.ref C) "__getattr__" = some none
  no : PySem.W.findIn K (.ref C) f = some none
  hd : PySem.W.hasDictIn K C = true
  ini : ∃ fI fd pn, PySem.W.findIn K (.ref C) "__init__" = some (some (.ref fI)) ∧ PySem.W.typeIn K (.ref fI) = some (.type "function") ∧ FnOk P w K mg base CX0 1 fI fd ["self", pn] (spEI C f) ∧ Binds K fd ["self", pn] []
section
variable {X : Cx} {c f : Str} {C : Addr}
theorem ps_raiseL {W : WX} {e : Expr} {te : TE} {p pos pos2 : Pos} (hc : X.calm = true) (T : XClsL X.prog X.w X.K X.mg X.base c f C) (hr : Room 2 X.A) (tk : Takes X W) (ha : PA X [e] (tCons te tNil)) (hg : Gl X c := by rfl) (hdb : (c == ("__debug__" : Str)) = false := by decide)
    (he : starEach (e :: []) X.env = (false, eval e X.env) :: starEach [] X.env := by rfl) (hpl : (backTo pos (starEach [] X.env)).any (·.1) = false := by rfl) :
    PS X (.Raise (some (.Call (.Name c p) [e] [] pos)) none pos2) (tRaiseX C f W te) := by
  obtain ⟨fI, fd, pn, i1, i2, i3, i4⟩ := T.ini
  exact ps_raise hc tk (pmk_ole T.o i1 i2 i3 hr i4 (fun _ _ _ _ _ _ _ h => h.elim) hg T.g ha hdb he hpl)
theorem pe_byL {a : Addr} {oe : Obj} {cls : Value} {d : Option Addr} {pn : List (Addr × Obj)} {e : Expr} {te : TE} {pos : Pos} (T : XClsL X.prog X.w X.K X.mg X.base c f C) (hz : Zc cls d oe) (hf : ∃ vs, oe.data = .fields vs) (he : PE (X.suite a ((a, oe) :: pn)) e te)
    (hb : attributeBase e f X.env (eval e X.env) = eval e X.env := by rfl) :
    PE (X.suite a ((a, oe) :: pn)) (.Attribute e f pos) (tByX C f a cls d te) := by
  refine ⟨fun pins s σ H Q I h => ?_⟩
  refine attr_of hb (thn (he.run pins s σ H _ I h) fun u s1 hh => ?_)
  obtain ⟨x, H1, I1, rx, ex, ec, dd, v, ed, ea, q⟩ := hh
  subst ex ec ed
  obtain rfl : u = Value.ref a := rx
  obtain ⟨ha, _⟩ := I1.pin (a, oe) (List.mem_append_left _ List.mem_cons_self)
  obtain ⟨vs, hd⟩ := hf
  have hx : ObjOk X.prog X.w H1 s1.heap dd (.xd [(f, v)]) := I1.hok dd _ ea
  obtain ⟨mA, hns, hr⟩ := hx
  obtain ⟨od, ho, hl⟩ := lookIn_ns hns
  obtain ⟨u, hu, ru⟩ := RelO.some_of (v := v) (o := mA f) (by rw [← show List.lookup f [(f, v)] = some v by simp [List.lookup]]; exact hr f)
  have J : PySem.W.InstAt s1.heap a oe C (some od) := ⟨ha, hz.1, by unfold PySem.W.notCls; rw [hd] <;> rfl, by rw [hz.2]; exact ho⟩
  exact PySem.HandSPX.exc_get I1.kIn J T.ga T.gg T.o.exC (PySem.W.findObj_own T.hd T.no rfl (by rw [hl, hu])) (handed_of ru) ⟨v, H1, I1.tok _, ru, q⟩
end
theorem olxC_mk {K : Fg} {C : Addr} {nm q : Str} {N : Addr} {bs : List Value} {sn : List Str} {sub : List Value} {ab : Bool} {col : Option Bool} {dd : Option Addr} {m0 m1 m2 m3 m5 : Option Value}
    (xL : K.lookup C = some (excClassObj nm q C N bs leT true sn sub ab col dd m0 m1 m2 m3 m5 "LookupError.__new__"))
    (sa : PySem.W.findIn K (.ref C) "__setattr__" = some (some (.builtin "object.__setattr__"))) (eC : PySem.W.subIn K (.ref C) (.type "BaseException") = some true) (tC : PySem.W.typeIn K (.ref C) = some (.type "type")) (kC : PySem.W.keepIn K (.ref C) = true) : OlxC K C :=
  ⟨⟨nm, q, N, bs, sn, sub, ab, col, dd, m0, m1, m2, m3, m5, xL⟩, sa, eC, tC, kC⟩
end MD

set_option Elab.async false
set_option linter.all false
set_option maxRecDepth 100000
set_option maxHeartbeats 2000000
namespace MD
open PySem PySem.Spec PyProof.Rows L2
variable {ww : WW}
/-! ### len(x), x an instance with an own __len__ -/
section
variable {prog : Program} {w : World} {A : Around} {E : Value → Shared → Prop} {s : Shared} {K : Fg} {x C f : Addr} {ox : Obj} {od : Option Obj}
theorem len_k {Q : Value → Shared → Prop} (X : K.In s.heap) (I : PySem.W.InstAt s.heap x ox C od) (hs : PySem.W.findIn K (.ref C) "__len__" = some (some (.ref f))) (hf : PySem.W.isFn K (.ref f) = true)
    (h : wpAny (model prog w) A.in1 (call (.ref f) [.ref x]) (fun r s1 => ∃ n u, r = Value.int n u ∧ 0 ≤ n ∧ n < 2 ^ 63 ∧ Q (.int n s1.toks) { s1 with toks := s1.toks + 1 }) E s) :
    wpAny (model prog w) A (call (.builtin "len") [.ref x]) Q E s := by
  refine Calls.call_function_entry kind_len plain_len entry_len (args_len1 _) ?_
  unfold Builtin.«len»
  refine wpAny_bind (m := oneArg "len" _) (wpAny_pure ?_)
  refine wpAny_bind (m := callSpecial? (.ref x) (Str.ofString "__len__")) (PySem.W.special_fn X I hs (beq_iff_eq.mp hf) (wpAny_mono h (fun r s1 hr => ?_) fun _ _ y => y))
  obtain ⟨n, u, rfl, n0, n1, hq⟩ := hr
  refine wpAny_bind (wpAny_holding (wpAny_pure (wpAny_bind (wpAny_letGo ?_))))
  show wpAny _ _ (if n < 0 then _ else _) _ _ _
  rw [if_neg (by omega)]
  show wpAny _ _ (if n ≥ 2 ^ 63 then _ else _) _ _ _
  rw [if_neg (by omega)]
  exact wpAny_bind (wpAny_mkInt (wpAny_pure ⟨_, rfl, hq⟩))
end
def rLenO (C : Addr) (sp : Sp) : List V → Hp → VK → Prop := fun xs H Q => ∃ a dx fs, xs = [V.ref a] ∧ H a = some (.ins C dx fs) ∧ sp [.ref a] H (fun z H' => ∃ i : Int, z = .int i ∧ 0 ≤ i ∧ i < 2 ^ 63 ∧ Q z H') E0
section
variable {X : Cx} {k j : Nat} {f : Addr} {fd : FuncData} {ps : List Str} {sp : Sp} {C : Addr}
theorem call_lenO (m : Meth X.K C "__len__" f) (F : FnG X.prog X.w X.K X.mg X.base k f fd ps sp) (hr : Room (k + 1) X.A) (gd : X.A.guards = some []) (hb : Binds X.K fd ps []) : CallR X (.builtin "len") (rLenO C sp) := by
  intro pins s σ H xs us Q I r h
  obtain ⟨a, dx, fs, rfl, ea, q⟩ := h
  obtain ⟨u, rfl, ru⟩ := r.one
  cases (show u = Value.ref a from ru)
  obtain ⟨mA, O, _, _, _, _⟩ := ins_get I.hok ea
  obtain ⟨od, J, _⟩ := O.look
  have bb := hb s [.ref a] I.kIn (by rw [List.append_nil]; exact F.len _ _ _ _ q)
  rw [List.append_nil] at bb
  refine len_k I.kIn J m.at_ m.fn (wpAny_call (codeAny_mono (F.run X.A.in1 X.stack s H ⟨[.ref a], []⟩ [.ref a] [.ref a] _ E0 (Room.in1 hr) gd I.env0.in1 bb (.cons rfl .nil) q) fun rr s' hq => ?_))
  cases rr with
  | error er => exact False.elim hq
  | ok fl =>
    cases fl with
    | ret u =>
      have z := I.after hq
      obtain ⟨z', H', I', rz, i, ei, i0, i1, qz⟩ := z
      subst ei
      obtain ⟨t, e⟩ := (show ∃ t, u = Value.int i t from rz)
      cases e
      exact ⟨i, t, rfl, i0, i1, .int i, H', I'.tok _, ⟨_, rfl⟩, qz⟩
    | next => exact False.elim hq
    | brk => exact False.elim hq
    | cont => exact False.elim hq
theorem call_lenOC {c : Str} (M : CalM X.prog X.w X.K X.mg X.base j c "__len__" ps sp) (hr : Room k X.A) (gd : X.A.guards = some []) (hj : j + 1 ≤ k := by decide) : CallR X (.builtin "len") (rLenO M.choose sp) := by
  obtain ⟨_, _, f, fd, F, hm, hb⟩ := M.choose_spec
  exact call_lenO hm F (hr.mono hj) gd hb
end
section
variable {P : Program} {w : World} {K : Fg} {mg : Str → Option Value} {base : Heap} {j : Nat} {c : Str} {ps : List Str}
def lenOM (c : Str) (mf : MF) (fo : ME) : ME := fun env st => (fo env st).bind fun p => (refOf p.1).bind fun n => (insAt [c] p.2 n).bind fun z => (mf [p.1] p.2).bind fun q => match q.1 with
  | .int i => if 0 ≤ i ∧ i < 2 ^ 63 then some q else none
  | _ => none
theorem im_lenO {c : Str} {C : Addr} {mf : MF} {to : TE} {fo : ME} (hC : clsOf K c = some C) (ho : Im K to fo) : Im K (tCB (rLenO C (spD K 1 mf)) (tCons to tNil)) (lenOM c mf fo) := fun dk H0 F0 F σ H env st d st' g e Q q => by
  obtain ⟨⟨x, s1⟩, e1, f1⟩ := bnd e
  obtain ⟨n, e2, f2⟩ := bnd f1
  obtain ⟨z, e3, f3⟩ := bnd f2
  obtain ⟨⟨y, s2⟩, e4, f4⟩ := bnd f3
  clear e f1 f2 f3
  refine ho dk H0 F0 F σ H env st x s1 g e1 _ fun v F1 H1 x1 g1 r1 => ?_
  have hx : x = .ref n := refOf_eq e2
  subst hx
  obtain ⟨b, rfl, hb⟩ := r1.refn
  obtain ⟨C', dx, vs, h1, h2, h3, h4⟩ := g1.wd.insAt hb e3
  have hz : z.1 = c := List.mem_singleton.mp (insAt_eq e3).2
  rw [hz, hC] at h1
  cases h1
  dsimp only at f4
  split at f4
  · rename_i i
    split at f4
    · rename_i hr
      cases f4
      refine ⟨b, dx, _, rfl, h2, rfl, dk, F1, [.ref n], s1, .int i, _, g1.wd, .cons r1 .nil, e4, fun v F' H' x w r => ?_⟩
      cases r
      exact ⟨i, rfl, hr.1, hr.2, q _ F' H' (x1.trans x) (g1.step x w) (.int i)⟩
    · cases f4
  · cases f4
theorem im_lenOC {mf : MF} {to : TE} {fo : ME} (C : CalM P w K mg base j c "__len__" ps (spD K 1 mf)) (ho : Im K to fo) : Im K (tCB (rLenO C.choose (spD K 1 mf)) (tCons to tNil)) (lenOM c mf fo) := im_lenO C.choose_spec.1 ho
end
end MD

set_option Elab.async false
set_option linter.all false
set_option maxRecDepth 100000
set_option maxHeartbeats 2000000
namespace MD
open PySem PySem.Spec PyProof.Rows L2
variable {ww : WW}
/-! ### defs with defaults, called with all their arguments -/
structure FunV (K : Fg) (x qual : Str) (st : Stmt) (d : Nat) (f : Addr) (fd : FuncData) : Prop where
  ex : ∃ (oc : Value) (od : Option Addr) (dV kV doc pm : Value) (an : Option Addr) (cdv ct : Value) (osl : Array (Option Value)),
    fd = PySem.W.fnOf x qual (defArgs st) (defBody st) (defScope st) dV kV doc pm an cdv ct ∧ K.lookup f = some ⟨oc, od, .func fd, osl⟩ ∧ PySem.W.codeIn K cdv qual = true ∧
      ∃ (T : Addr) (o : Obj) (its : List Value) (n : Nat), dV = .ref T ∧ K.lookup T = some o ∧ o.data = .seq its.toArray n ∧ its.length = d
  kp : PySem.W.keepIn K (.ref f) = true
theorem funV_mk {K : Fg} {x qual : Str} {st : Stmt} {f T : Addr} {oc : Value} {od an : Option Addr} {osl : Array (Option Value)} {kV doc pm cdv ct : Value} (l : K.lookup f = some ⟨oc, od, .func (PySem.W.fnOf x qual (defArgs st) (defBody st) (defScope st) (.ref T) kV doc pm an cdv ct), osl⟩)
    (c : PySem.W.codeIn K cdv qual = true) (k : PySem.W.keepIn K (.ref f) = true) {o : Obj} {its : List Value} {n : Nat} (lT : K.lookup T = some o) (oT : o.data = .seq its.toArray n) : FunV K x qual st its.length f (PySem.W.fnOf x qual (defArgs st) (defBody st) (defScope st) (.ref T) kV doc pm an cdv ct) :=
  ⟨⟨oc, od, _, kV, doc, pm, an, cdv, ct, osl, rfl, l, c, T, o, its, n, rfl, lT, oT, rfl⟩, k⟩
theorem FunV.binds {K : Fg} {x qual : Str} {st : Stmt} {d : Nat} {f : Addr} {fd : FuncData} {ps : List Str} (F : FunV K x qual st d f fd)
    (h : ∀ (T : Addr) (kV doc pm : Value) (an : Option Addr) (cdv ct : Value) (us its : List Value), us.length = ps.length → its.length = d →
      ∃ k, bindArgs (PySem.W.fnOf x qual (defArgs st) (defBody st) (defScope st) (.ref T) kV doc pm an cdv ct) ⟨us, []⟩ = seqItems? (.ref T) >>= k ∧ k (some its.toArray) = pure (ps.zip us)) : Binds K fd ps [] := by
  obtain ⟨oc, od, dV, kV, doc, pm, an, cdv, ct, osl, rfl, lk, hcd, T, o, its, n, rfl, lT, oT, hd⟩ := F.ex
  intro s us X hl
  rw [List.append_nil] at hl ⊢
  obtain ⟨k, e1, e2⟩ := h T kV doc pm an cdv ct us its hl hd
  refine BindsTo.of_looks fun M => ?_
  rw [e1]
  exact L2.looks_items X lT oT (.of_pure e2)
/-- a def of the text by its body -/
theorem fnGV_of {P : Program} {w : World} {K : Fg} {mg : Str → Option Value} {base : Heap} {x qual : Str} {st : Stmt} {f : Addr} {fd : FuncData} {N ps : List Str} {k : Nat} {sp : Sp} {nd : Nat} (Fn : FunV K x qual st nd f fd) (S : FnScope N ps (defScope st))
    (len : ∀ vs H Q E, sp vs H Q E → vs.length = ps.length)
    (hbody : ∀ (cdv : Value) (A : Around) (outer : List Env) (s : Shared) (H : Hp) (vs : List V) (Q : VK) (E : XK), Room k (A.deeper (envOfC qual (defScope st) s.heap.objs.size f cdv)) → (A.deeper (envOfC qual (defScope st) s.heap.objs.size f cdv)).guards = some [] → sp vs H Q E →
      ∃ t, PSs (cxOf CX0 P w K mg base N qual (defScope st) f cdv A outer s H E).nox (defBody st) t ∧ t { nx := fun _ H' => Q .non H', rt := Q } (L2.start N vs) H) : FnG P w K mg base (k + 1) f fd ps sp := by
  refine ⟨len, fun A outer s H args us vs Q E hr gd e0 hb r hsp => ?_⟩
  -- the promise, asked only where no repr is running
  let sp' : Sp := fun vs' H' Q' E' => sp vs' H' Q' E'
  obtain ⟨oc, od, dV, kV, doc, pm, an, cdv, ct, osl, rfl, lk, hcd, _⟩ := Fn.ex
  have hl := len _ _ _ _ hsp
  have KX : K.In s.heap := e0.mod.kin.keeps fun b o e => (e0.bs b o e).1
  have lim : s.heap.NoLimit := e0.mod.nolimit.keeps fun b o e => (e0.bs b o e).1
  have hkind : ∀ y ∈ ps.zip us, (defScope st).names.lookup y.1 = some .local ∨ ((defScope st).names.lookup y.1 = some .cell ∧ ((cellsFrom (s.heap.objs.size + 1) (defScope st).names []).lookup y.1).isSome = true) := by
    rintro ⟨n, v⟩ hy
    rcases S.par n (List.of_mem_zip hy).1 with q | q
    · exact .inl q
    · exact .inr ⟨q, PySem.W.cellsFrom_some _ _ _ (.inl q)⟩
  refine codeAny_call_function hr.depth (KX _ _ lk) rfl S.co S.gen rfl (PySem.W.codeRec_of KX hcd) (hb _ _ _ _ ?_)
  refine wpAny_newFunctionEnv_cells S.kind hkind fun env he s1 y => ?_
  subst he
  refine ⟨lim.keeps y.toInCall.keep, codeAny_func ?_⟩
  obtain ⟨t, ht, hq⟩ := hbody cdv A outer s H vs Q E (hr.deeper _) (guards_deeper _ gd) hsp
  have I := inv_start (CX := CX0) (E := E) (qual := qual) (f := f) (cd := cdv) S hr.hd e0 hl r y
  refine wpAny_mono ((ht.nox).run [] s1 (L2.start N vs) H _ I hq) (fun fl s' hs => ?_) fun er s' hs => hs
  cases fl with
  | ret u =>
    obtain ⟨v, σ', H', J, rv, q⟩ := hs
    exact ⟨v, H', J.os, J.bare, J.base, J.hok, rv, q⟩
  | next =>
    obtain ⟨σ', H', J, q⟩ := hs
    exact ⟨V.non, H', J.os, J.bare, J.base, J.hok, rfl, q⟩
  | brk =>
    obtain ⟨_, _, _, q⟩ := hs
    exact False.elim q
  | cont =>
    obtain ⟨_, _, _, q⟩ := hs
    exact False.elim q

section
variable {K : Fg}
theorem fnDV {P : Program} {w : World} {mg : Str → Option Value} {base : Heap} {x qual : Str} {st : Stmt} {f : Addr} {fd : FuncData} {N ps : List Str} {k : Nat} {b : MS} {nd : Nat} (Fn : FunV K x qual st nd f fd) (S : FnScope N ps (defScope st)) (hN : ps.length ≤ N.length)
    (hbody : ∀ (cdv : Value) (A : Around) (outer : List Env) (s : Shared) (H : Hp) (E : XK), Room k (A.deeper (envOfC qual (defScope st) s.heap.objs.size f cdv)) → (A.deeper (envOfC qual (defScope st) s.heap.objs.size f cdv)).guards = some [] →
      ∃ t, PSs (cxOf CX0 P w K mg base N qual (defScope st) f cdv A outer s H E).nox (defBody st) t ∧ ImS K t b) : FnG P w K mg base (k + 1) f fd ps (spD K ps.length (runM N.length b)) := by
  refine fnGV_of Fn S (fun vs H Q E h => h.1) fun cdv A outer s H vs Q E hr gd h => ?_
  obtain ⟨hlv, dk, F, ds, s0, d, s1, wd, r, e, q⟩ := h
  obtain ⟨t, h1, h2⟩ := hbody cdv A outer s H E hr gd
  refine ⟨t, h1, ?_⟩
  obtain ⟨⟨fl, s2⟩, e1, e⟩ := bnd e
  refine h2 dk H F F (L2.start N vs) H _ s0 fl s2 (good_start wd r (by rw [hlv]; exact hN)) e1 _ ?_
  cases fl with
  | rt d' => cases e; exact fun v F' H' x w r => q v F' H' x w r
  | nx en => cases e; exact fun F' σ' H' le g => q .non F' H' g.ext g.wd .non
  | bk en => cases e
  | ct en => cases e
end
theorem calMX_mk {P : Program} {w : World} {K : Fg} {mg : Str → Option Value} {base : Heap} {k : Nat} {c m : Str} {ps : List Str} {sp : Sp} {C f : Addr} {fd : FuncData} (h : PySem.W.nsIn K mainGlobals c = some (some (.ref C))) (cl : Cls K C) (F : FnX P w K mg base k f fd ps sp) (M : Meth K C m f) (b : Binds K fd ps []) : CalMX P w K mg base k c m ps sp :=
  ⟨C, by unfold clsOf; rw [h], cl, f, fd, F, M, b⟩
/-! ### lists by their length -/
section
variable {P : List Value → Prop} {us : List Value}
theorem len1 (h : us.length = 1) (k : ∀ a, P [a]) : P us := by
  obtain ⟨a, rfl⟩ := List.length_eq_one_iff.mp h
  exact k a
theorem len0 (h : us.length = 0) (k : P []) : P us := by
  rw [List.length_eq_zero_iff.mp h]; exact k
theorem lenS {n : Nat} (h : us.length = n + 1) (k : ∀ a r, r.length = n → P (a :: r)) : P us := by
  cases us with
  | nil => cases h
  | cons a r => exact k a r (by simpa using h)
theorem len2 (h : us.length = 2) (k : ∀ a b, P [a, b]) : P us := lenS h fun a r h => len1 (P := fun r => P (a :: r)) h fun b => k a b
theorem len3 (h : us.length = 3) (k : ∀ a b c, P [a, b, c]) : P us := lenS h fun a r h => len2 (P := fun r => P (a :: r)) h fun b c => k a b c
theorem len4 (h : us.length = 4) (k : ∀ a b c d, P [a, b, c, d]) : P us := lenS h fun a r h => len3 (P := fun r => P (a :: r)) h fun b c d => k a b c d
theorem len5 (h : us.length = 5) (k : ∀ a b c d e, P [a, b, c, d, e]) : P us := lenS h fun a r h => len4 (P := fun r => P (a :: r)) h fun b c d e => k a b c d e
end
theorem bnd1 {fd : FuncData} {ps : List Str} {us : List Value} (h : us.length = 1) (k : ∀ a, bindArgs fd ⟨[a], []⟩ = pure (ps.zip [a])) : bindArgs fd ⟨us, []⟩ = pure (ps.zip us) := len1 (P := fun us => bindArgs fd ⟨us, []⟩ = pure (ps.zip us)) h k
theorem bnd2 {fd : FuncData} {ps : List Str} {us : List Value} (h : us.length = 2) (k : ∀ a b, bindArgs fd ⟨[a, b], []⟩ = pure (ps.zip [a, b])) : bindArgs fd ⟨us, []⟩ = pure (ps.zip us) := len2 (P := fun us => bindArgs fd ⟨us, []⟩ = pure (ps.zip us)) h k
theorem bnd3 {fd : FuncData} {ps : List Str} {us : List Value} (h : us.length = 3) (k : ∀ a b c, bindArgs fd ⟨[a, b, c], []⟩ = pure (ps.zip [a, b, c])) : bindArgs fd ⟨us, []⟩ = pure (ps.zip us) := len3 (P := fun us => bindArgs fd ⟨us, []⟩ = pure (ps.zip us)) h k
theorem bnd4 {fd : FuncData} {ps : List Str} {us : List Value} (h : us.length = 4) (k : ∀ a b c d, bindArgs fd ⟨[a, b, c, d], []⟩ = pure (ps.zip [a, b, c, d])) : bindArgs fd ⟨us, []⟩ = pure (ps.zip us) := len4 (P := fun us => bindArgs fd ⟨us, []⟩ = pure (ps.zip us)) h k
theorem bnd5 {fd : FuncData} {ps : List Str} {us : List Value} (h : us.length = 5) (k : ∀ a b c d e, bindArgs fd ⟨[a, b, c, d, e], []⟩ = pure (ps.zip [a, b, c, d, e])) : bindArgs fd ⟨us, []⟩ = pure (ps.zip us) := len5 (P := fun us => bindArgs fd ⟨us, []⟩ = pure (ps.zip us)) h k
end MD

set_option Elab.async false
set_option linter.all false
set_option maxRecDepth 100000
set_option maxHeartbeats 2000000
namespace MD
open PySem PySem.Spec PyProof.Rows L2
variable {ww : WW}
/-! ### lambdas with parameters: the names of the maker that are used, then the parameters -/
structure LamP (sc scope : Scope) (caps pars : List Str) : Prop where
  kind : scope.kind = .function
  co : scope.isCoroutine = false
  gen : scope.isGenerator = false
  nd : pars.Nodup
  nc : ∀ y ∈ scope.names, y.2 ≠ .cell
  par : ∀ x ∈ pars, scope.names.lookup x = some .local
  cap : ∀ x ∈ caps, scope.names.lookup x = some .free
  free : ∀ y ∈ scope.names, y.2 = .free → sc.names.lookup y.1 = some .cell ∨ sc.names.lookup y.1 = some .free
def lcx (X : Cx) (A : Around) (outer : List Env) (s : Shared) (H : Hp) (scope : Scope) (f c' : Addr) (N : List Str) : Cx :=
  { LamX.lamCx X A outer s H E0 scope f c' with N := N, xe := fun _ _ => False }
theorem zip_look {ps : List Str} (nd : ps.Nodup) : ∀ {us : List Value} {j : Nat} {x : Str} {u : Value}, ps[j]? = some x → us[j]? = some u → (ps.zip us).reverse.lookup x = some u := by
  intro us j x u h1 h2
  have key : ∀ (l : List (Str × Value)), (l.map (·.1)).Nodup → (x, u) ∈ l → l.lookup x = some u := by
    intro l
    induction l with
    | nil => intro _ h; cases h
    | cons p r ih =>
      intro hn hm
      rw [List.map_cons, List.nodup_cons] at hn
      obtain ⟨p1, p2⟩ := p
      rcases List.mem_cons.mp hm with z | z
      · cases z
        rw [List.lookup_cons, beq_self_eq_true]
      · have : x ≠ p1 := fun e => hn.1 (List.mem_map.mpr ⟨(x, u), z, e⟩)
        rw [List.lookup_cons, beq_false_of_ne this]
        exact ih hn.2 z
  refine key _ ?_ ?_
  · have e : ∀ (l : List Str) (vs : List Value), ((l.zip vs).map (·.1)).Sublist l := by
      intro l
      induction l with
      | nil => intro vs; exact List.Sublist.slnil
      | cons a r ih =>
        intro vs
        cases vs with
        | nil => exact List.nil_sublist _
        | cons v vs => exact (ih vs).cons_cons a
    rw [List.map_reverse]
    exact List.pairwise_reverse.mpr ((nd.sublist (e ps us)).imp fun h => h.symm)
  · rw [List.mem_reverse]
    exact List.mem_of_getElem? (i := j) (List.getElem?_zip_eq_some (z := (x, u)) |>.mpr ⟨h1, h2⟩)
section
variable {X : Cx} {pins : List (Addr × Obj)} {σ : L2.St} {H HZ : Hp} {s s1 : Shared}
theorem lam_in {A : Around} {outer : List Env} {scope : Scope} {f c' : Addr} {h₁ : Heap} {tk : Nat} {caps pars : List Str} {cV vs : List V} {us : List Value} (I : Inv X pins σ H s) (L : LamP X.env.scope scope caps pars) (e0 : Env0 X.prog X.w X.K X.mg X.base A outer s1 HZ) (hd : A.handled = none)
    (un : Un (frs X.stack) [] H HZ s.heap s1.heap) (hcap : ∀ (i : Nat) (x : Str), caps[i]? = some x → ∃ (k : Nat) (v : V), X.N[k]? = some x ∧ σ[k]? = some (some v) ∧ cV[i]? = some v) (hcl : cV.length = caps.length) (hvl : vs.length = pars.length) (r : Vals vs us)
    (hns : h₁.Ns s1.heap.objs.size fun y => (pars.zip us).reverse.lookup y) (kp : ∀ b o, s1.heap.get? b = some o → h₁.get? b = some o) :
    Inv (lcx X A outer s1 HZ scope f c' (caps ++ pars)) [] ((cV ++ vs).map some) HZ { s1 with heap := h₁, toks := tk } := by
  have hFree : ∀ y ∈ scope.names, y.2 = .free → ∃ c, X.env.cells.lookup y.1 = some c := fun y hy e => by
    rcases L.free y hy e with kk | kk
    · exact I.ok.has _ (.inl kk)
    · exact I.ok.has _ (.inr kk)
  have back : ∀ {y c}, (cloFrom X.env.cells scope.names []).lookup y = some c → X.env.cells.lookup y = some c := fun {y c} e => by
    rcases cloFrom_mem (PySem.mem_of_lookup e) with hm | ⟨g1, g2⟩
    · cases hm
    · obtain ⟨cz, hc⟩ := hFree _ g1 rfl
      have hc : X.env.cells.lookup y = some cz := hc
      have e2 : c = cz := by rw [g2, hc] <;> rfl
      rw [e2]; exact hc
  have look : ∀ {y}, scope.names.lookup y = some .free → ∃ c, (cloFrom X.env.cells scope.names []).lookup y = some c := fun {y} hl =>
    mem_lookup (cloFrom_has (cells := X.env.cells) (acc := []) (PySem.mem_of_lookup hl))
  have cKeep : ∀ {c : Addr} {v : Option Value}, H c = none → s.heap.IsCell c v → h₁.IsCell c v := fun {c v} n ⟨o, ho, hd⟩ => by
    obtain ⟨sl, qq⟩ := un.any ho n (by simp)
    exact ⟨_, kp _ _ qq, hd⟩
  have noA : ∀ b : Addr, b ∉ (lcx X A outer s1 HZ scope f c' (caps ++ pars)).ex := fun b z => absurd (show b ∈ ([] : List Addr) from z) (by simp)
  have ok : (lcx X A outer s1 HZ scope f c' (caps ++ pars)).Ok := by
    refine ⟨e0.mod, L.kind, rfl, rfl, Nat.le_refl _, fun y z c e1 e2 => I.ok.inj y z c (back e1) (back e2), fun y hy => ?_, fun y c z _ => ?_, fun _ => hd, Around.frames_deeper e0.frames, .inr ⟨rfl, rfl⟩, fun b z => absurd z (noA b), e0.bs, e0.bsz, fun b _ _ => noA b, fun b z => absurd z (noA b), e0.funs, e0.frf⟩
    · rcases (show scope.names.lookup y = some .cell ∨ scope.names.lookup y = some .free from hy) with hy | hy
      · exact absurd rfl (L.nc _ (PySem.mem_of_lookup hy))
      · exact look hy
    · exact nomatch (show false = true from z)
  refine ⟨ok, rfl, e0.bare, Un.kept kp, ⟨_, hns, fun i y v e1 e2 e3 => ?_⟩, fun y c e => ?_, e0.hok.fresh (Nat.le_refl _), fun y c e => ?_, fun q hq => absurd (show q ∈ ([] : List (Addr × Obj)) ++ [] from hq) (by simp), e0.hok.kept kp, ?_⟩
  · have e1 : (caps ++ pars)[i]? = some y := e1
    have e2 : (cV ++ vs)[i]? = some v := by
      rw [List.getElem?_map] at e2
      cases q : (cV ++ vs)[i]? with
      | none => rw [q] at e2; cases e2
      | some z => rw [q] at e2; cases e2; rfl
    by_cases hi : i < caps.length
    · rw [List.getElem?_append_left hi] at e1
      rw [List.getElem?_append_left (by omega)] at e2
      obtain ⟨k, w, k1, k2, k3⟩ := hcap i y e1
      rw [k3] at e2
      cases e2
      have hy := L.cap y (List.mem_of_getElem? e1)
      have hvis : Vis X.env.scope y := (L.free _ (PySem.mem_of_lookup hy) rfl).elim (fun k => .inr (.inl k)) (fun k => .inr (.inr k))
      obtain ⟨m, hn, hl⟩ := I.loc
      obtain ⟨w', r', q⟩ := hl k y v k1 k2 hvis
      obtain ⟨c2, h2⟩ := look hy
      refine ⟨w', r', .inr ⟨.inr hy, c2, h2, ?_⟩⟩
      have c1 := back h2
      rcases q with ⟨k', _⟩ | ⟨_, cc, e', z⟩
      · have kk : X.env.scope.names.lookup y = some .local := k'
        rcases L.free _ (PySem.mem_of_lookup hy) rfl with k2 | k2 <;> rw [show X.env.scope.names.lookup y = _ from k2] at kk <;> cases kk
      · rw [c1] at e'
        cases e'
        exact cKeep (I.freeC y _ c1) z
    · rw [List.getElem?_append_right (by omega)] at e1
      rw [List.getElem?_append_right (by omega), hcl] at e2
      obtain ⟨u, hu, rv⟩ := r.get e2
      exact ⟨u, rv, .inl ⟨L.par y (List.mem_of_getElem? e1), zip_look L.nd e1 hu⟩⟩
  · obtain ⟨wz, z⟩ := I.cell y c (back e)
    exact ⟨wz, cKeep (I.freeC y c (back e)) z⟩
  · obtain ⟨vz, o, ho, hd⟩ := I.cell y c (back e)
    exact un.free c o ho (I.freeC y c (back e)) (by simp)
  · show ((cV ++ vs).map some).length = (caps ++ pars).length
    rw [List.length_map, List.length_append, List.length_append, hcl, hvl]
/-- what standing for the lambda is asked: the function, its code object, the arguments -/
def tClo (j : Nat) (f c' : Addr) (q : Str) (n : Nat) (cV : List V) (tb : TE) (ta : TA) : TE := fun σ H Q => σ[j]? = some (some (.ref f)) ∧ ta σ H fun vs H1 => vs.length = n ∧ H1 c' = some (LamX.CodeO c' q) ∧ tb ((cV ++ vs).map some) H1 Q
/-- a(es), in the def that got the lambda as its a -/
theorem pe_clo {Eg : XK} {Ng : List Str} {qg q : Str} {sg : Scope} {g f c' : Addr} {cdg pm ctv : Value} {params : Arguments} {body : Expr} {scope : Scope} {caps pars : List Str} {cV : List V} {k j : Nat} {a : Str} {tb : TE} {ta : TA} {e : Expr} {es : List Expr} {p1 p2 : Pos}
    (I : Inv X pins σ H s) (L : LamP X.env.scope scope caps pars) (hq : q = X.env.qual ++ "<lambda>") (hf : s.heap.get? f = some (PySem.W.kla_obj "<lambda>" q params body scope (cloFrom X.env.cells scope.names []) pm c' ctv)) (hfn : H f = none) (hfr : f ∉ frs X.stack)
    (hcap : ∀ (i : Nat) (x : Str), caps[i]? = some x → ∃ (k : Nat) (v : V), X.N[k]? = some x ∧ σ[k]? = some (some v) ∧ cV[i]? = some v) (hcl : cV.length = caps.length)
    (hbind : ∀ us : List Value, us.length = pars.length → bindArgs (PySem.W.kla_fn "<lambda>" q params body scope (cloFrom X.env.cells scope.names []) pm (.ref c') ctv) ⟨us, []⟩ = pure (pars.zip us))
    (hr : Room (k + 1) (X.A.deeper (envOfC qg sg s.heap.objs.size g cdg))) (gd : (X.A.deeper (envOfC qg sg s.heap.objs.size g cdg)).guards = some [])
    (hbody : ∀ (A : Around) (outer : List Env) (s : Shared) (H : Hp), Room k (A.deeper (LamX.lamEnv X scope s.heap.objs.size f c')) → (A.deeper (LamX.lamEnv X scope s.heap.objs.size f c')).guards = some [] → PE (lcx X A outer s H scope f c' (caps ++ pars)) body tb)
    (hN : Ng[j]? = some a) (hv : Vis sg a) (ha : PA (cxOf CX0 X.prog X.w X.K X.mg X.base Ng qg sg g cdg X.A X.stack s H Eg).nox (e :: es) ta)
    (hd : (a == ("__debug__" : Str)) = false := by decide) (hcd : (a == ("__classdict__" : Str)) = false := by decide)
    (he : starEach (e :: es) (cxOf CX0 X.prog X.w X.K X.mg X.base Ng qg sg g cdg X.A X.stack s H Eg).nox.env = (false, eval e (cxOf CX0 X.prog X.w X.K X.mg X.base Ng qg sg g cdg X.A X.stack s H Eg).nox.env) :: starEach es (cxOf CX0 X.prog X.w X.K X.mg X.base Ng qg sg g cdg X.A X.stack s H Eg).nox.env := by rfl)
    (hpl : (backTo p2 (starEach es (cxOf CX0 X.prog X.w X.K X.mg X.base Ng qg sg g cdg X.A X.stack s H Eg).nox.env)).any (·.1) = false := by rfl) :
    PE (cxOf CX0 X.prog X.w X.K X.mg X.base Ng qg sg g cdg X.A X.stack s H Eg).nox (.Call (.Name a p1) (e :: es) [] p2) (tClo j f c' q pars.length cV tb ta) := by
  subst hq
  refine ⟨fun pinsZ sZ σZ HZ Q IZ h => ?_⟩
  obtain ⟨hs, ht⟩ := h
  refine wpAny_Call_Name_kw (thn ((pe_var (pos := p1) (i := j) hN hv hd hcd).run pinsZ sZ σZ HZ (fun v H1 => v = .ref f ∧ H1 = HZ) IZ ⟨.ref f, hs, rfl, rfl⟩) fun u s1 ⟨v, H1, I1, r1, q1⟩ => ?_)
  obtain ⟨rfl, rfl⟩ := q1
  obtain rfl : u = Value.ref f := r1
  have stay : ∀ {σ2 : L2.St} {H2 : Hp} {s2 : Shared} {pins2 : List (Addr × Obj)}, Inv (cxOf CX0 X.prog X.w X.K X.mg X.base Ng qg sg g cdg X.A X.stack s H Eg).nox pins2 σ2 H2 s2 → s2.heap.get? f = some (PySem.W.kla_obj "<lambda>" (X.env.qual ++ "<lambda>") params body scope (cloFrom X.env.cells scope.names []) pm c' ctv) :=
    fun J => J.base.keep f _ hf hfn hfr (fun z => nomatch (show f ∈ ([] : List Addr) from z))
  refine PySem.W.callWith_F ⟨_, _, _, _, stay I1⟩ (thn (ha.run p2 pinsZ s1 σZ H1 _ I1 ht) fun us s2 q0 => ?_) he hpl
  obtain ⟨vs, H2, I2, rv, hlen, hc, hb⟩ := q0
  have of2 := stay I2
  refine ⟨⟨_, _, _, _, of2⟩, ?_⟩
  have un : Un (frs X.stack) [] H H2 s.heap s2.heap := I2.base
  have hlu : us.length = pars.length := rv.length.symm.trans hlen
  obtain ⟨⟨oc, ws, t, hoc, hdc, hvc⟩, _, _⟩ := I2.hok c' _ hc
  have rc : codeAny (model X.prog X.w) (X.A.deeper (envOfC qg sg s.heap.objs.size g cdg)) (.call (.ref f) ⟨us, []⟩) (CR CX0 (envOfC qg sg s.heap.objs.size g cdg :: X.stack) X.prog X.w H2 s2 Q E0) s2 := by
    refine PySem.W.kla_callFunE hr.depth of2 rfl L.co L.gen rfl ⟨c', oc, ws, t, rfl, hoc, hdc, hvc⟩ ?_
    rw [hbind us hlu]
    refine wpAny_pure (wpAny_newFunctionEnv L.nc (fun y hy => L.par y.1 (List.of_mem_zip (by exact hy)).1) (fun h₁ hns hsb => ⟨I2.nolimit.fresh _ hsb, ?_⟩) L.kind)
    show codeAny _ _ (.expr body (LamX.lamEnv X scope s2.heap.objs.size f c')) _ _
    have kp : ∀ b o, s2.heap.get? b = some o → h₁.get? b = some o := fun b o e => hsb.extBut b o (Nat.ne_of_lt (Heap.lt_size e)) (Heap.get?_push_of_some _ e)
    have J := lam_in (tk := s2.toks + (pars.zip us).length) (A := X.A.deeper (envOfC qg sg s.heap.objs.size g cdg)) (outer := envOfC qg sg s.heap.objs.size g cdg :: X.stack) (f := f) (c' := c') I L I2.env0 hr.hd un hcap hcl hlen rv hns kp
    refine PySem.W.kla_codeExpr (wpAny_mono ((hbody _ _ s2 H2 (hr.deeper _) (guards_deeper _ gd)).run [] _ _ H2 Q J hb) (fun v s' hq => ?_) fun e s' hq => (show False from hq).elim)
    obtain ⟨w', H', J', rw', q'⟩ := hq
    exact ⟨w', H', J'.os, J'.bare, J'.base, J'.hok, rw', q'⟩
  refine wpAny_call (codeAny_mono rc fun r s' hq => ?_)
  cases r with
  | error e => exact (show False from hq).elim
  | ok fl =>
    cases fl with
    | ret u => exact I2.after hq
    | next => exact False.elim hq
    | brk => exact False.elim hq
    | cont => exact False.elim hq
/-- the making of a lambda: its code object is found in the table, or written there -/
structure Made (H : Hp) (P : Addr) (ps : Array Value) (q : Str) (H1 : Hp) (c' : Addr) : Prop where
  co : H1 c' = some (LamX.CodeO c' q)
  or : (H1 = H ∧ ∃ pos : Pos, codeAmong pos ps.toList = some (.ref c')) ∨ ∃ ps' : Array Value, H c' = none ∧ H1 = upd (upd H P (.tbl ps')) c' (LamX.CodeO c' q) ∧ TriplesOk ps'.toList ∧ ∀ (pos : Pos) (cv : Value), codeAmong pos ps'.toList = some cv → codeAmong pos ps.toList = some cv ∨ cv = .ref c'
theorem lam_make {c P : Addr} {ps : Array Value} {q : Str} {params : Arguments} {body : Expr} {scope : Scope} {pos : Pos} {E : Value → Shared → Prop} {Q : Value → Shared → Prop} (I : Inv X pins σ H s) (TB : LamX.TabB X.base X.mg c P) (hcode : X.env.code = .ref c) (hq : q = X.env.qual ++ "<lambda>")
    (hP : H P = some (.tbl ps)) (ht : TriplesOk ps.toList) (ha : ∀ (pos : Pos) (cv : Value), codeAmong pos ps.toList = some cv → ∃ c, cv = .ref c ∧ H c = some (LamX.CodeO c q)) (hdef : defaultsOf params X.env = ([], [])) (hF : ∀ y ∈ scope.names, y.2 = .free → ∃ c, X.env.cells.lookup y.1 = some c)
    (go : ∀ (f c' : Addr) (pm ctv : Value) (H1 : Hp) (s' : Shared), Inv X pins σ H1 s' → Made H P ps q H1 c' → s'.heap.get? f = some (PySem.W.kla_obj "<lambda>" q params body scope (cloFrom X.env.cells scope.names []) pm c' ctv) → H1 f = none → f ∉ frs X.stack → Q (.ref f) s') :
    wpAny (model X.prog X.w) X.A (eval (.Lambda params body scope pos) X.env) Q E s := by
  subst hq
  refine PySem.W.kla_eval hdef ?_
  have tP : s.heap.get? P = some { cls := .none, data := .fields ps } := I.hok P _ hP
  have away : ∀ a, s.heap.objs.size ≤ a → a ∉ frs X.stack := fun a hs z => by
    rcases List.mem_cons.mp (I.stkSub _ z) with e | e
    · have hlt := I.lt
      rw [← e] at hlt
      exact absurd (Nat.lt_of_lt_of_le hlt hs) (Nat.lt_irrefl _)
    · exact I.nofs hs e
  cases hit : codeAmong pos ps.toList with
  | none =>
    refine PySem.W.kla_makeFunction (mg := X.mg) (c := c) (P := P) (ps := ps) (closure_ok hF) I.ok.glob (I.mod.glob.keeps I.bk) hcode (TB.code.keeps I.bk) tP ht hit TB.gP (TB.bm.keeps I.bk) fun c' ctv h' tk hx hge hlt hrec htb => ?_
    obtain ⟨cz, oc, vs, t, ecz, hoc, hdat, hv⟩ := hrec
    cases ecz
    have grow : s.heap.objs.size ≤ h'.objs.size := Nat.le_trans hge (Nat.le_of_lt hlt)
    have fresh : H c' = none := I.hok.fresh hge
    have J := LamX.inv_table (t' := tk) (more := #[rawInt pos.line, rawInt pos.col, .ref c']) (h' := h'.push (PySem.W.kla_obj "<lambda>" (X.env.qual ++ "<lambda>") params body scope (cloFrom X.env.cells scope.names []) ((X.mg "__name__").getD .none) c' ctv)) I hP
      (fun b o hb e => Heap.get?_push_of_some _ (hx b o hb e)) (Heap.get?_push_of_some _ htb) hge ⟨oc, vs, t, Heap.get?_push_of_some _ hoc, hdat, hv⟩
    have lst : (ps ++ #[rawInt pos.line, rawInt pos.col, .ref c']).toList = ps.toList ++ [rawInt pos.line, rawInt pos.col, .ref c'] := by simp
    refine go h'.objs.size c' ((X.mg "__name__").getD .none) ctv _ _ J ⟨upd_same, .inr ⟨_, fresh, rfl, by rw [lst]; exact PySem.TriplesOk_snoc _ _ _ _ ht, fun p cv hcv => ?_⟩⟩ (Heap.get?_push_size _ rfl) ?_ (away _ grow)
    · rw [lst] at hcv
      exact LamX.among_app _ ht hcv
    · rw [upd_ne (Nat.ne_of_gt hlt), upd_ne (Nat.ne_of_gt (Nat.lt_of_lt_of_le (Heap.lt_size tP) grow))]
      exact I.hok.fresh grow
  | some cv =>
    obtain ⟨c', rfl, hco⟩ := ha pos cv hit
    refine PySem.W.kla_makeFunctionHit (mg := X.mg) (c := c) (P := P) (ps := ps) (closure_ok hF) I.ok.glob (I.mod.glob.keeps I.bk) hcode (TB.code.keeps I.bk) tP ht hit (TB.bm.keeps I.bk) fun ctv h' tk hx grow => ?_
    have J : Inv X pins σ H { s with heap := h'.push (PySem.W.kla_obj "<lambda>" (X.env.qual ++ "<lambda>") params body scope (cloFrom X.env.cells scope.names []) ((X.mg "__name__").getD .none) c' ctv), toks := tk } := I.kept fun b o e => Heap.get?_push_of_some _ (hx b o e)
    exact go h'.objs.size c' ((X.mg "__name__").getD .none) ctv H _ J ⟨hco, .inl ⟨rfl, pos, hit⟩⟩ (Heap.get?_push_size _ rfl) (I.hok.fresh grow) (away _ grow)
end
end MD

set_option Elab.async false
set_option linter.all false
set_option maxRecDepth 100000
set_option maxHeartbeats 2000000
namespace MD
open PySem PySem.Spec PyProof.Rows L2
/-- the same world of texts and tables, another lambda at hand -/
abbrev WW.lam (w : WW) (cv : List V) (cd : Option (Addr × Str)) : WW := ⟨w.w, cv, w.tb, cd⟩
variable {ww : WW}
section
variable {K : Fg} {dk : Dk} {F : Fz} {H : Hp} {st : S} {cv : List V} {cd : Option (Addr × Str)}
theorem ObAt.lam {a : Addr} {o : Ob} (h : @ObAt ww K dk F H a o) : @ObAt (ww.lam cv cd) K dk F H a o := by
  cases h with
  | lst h r => letI : WW := ww.lam cv cd; exact .lst h r
  | dic h l r => letI : WW := ww.lam cv cd; exact .dic h l r
  | lck h l r => letI : WW := ww.lam cv cd; exact .lck h l r
  | ins c h l r => letI : WW := ww.lam cv cd; exact .ins c h l r
  | nkd h k q v r n d => letI : WW := ww.lam cv cd; exact .nkd h k q v r n d
  | nkl h k q v r n d => letI : WW := ww.lam cv cd; exact .nkl h k q v r n d
  | tab b h t c => letI : WW := ww.lam cv cd; exact .tab b h t c
  | exc c h r => letI : WW := ww.lam cv cd; exact .exc c h r
  | exc0 c h => letI : WW := ww.lam cv cd; exact .exc0 c h
theorem Wd.lam (w : @Wd ww K dk F H st) : @Wd (ww.lam cv cd) K dk F H st := by
  obtain ⟨h1, h2, h3, h4, h5, h6, h7, h8, h9⟩ := w
  letI : WW := ww.lam cv cd
  exact ⟨h1, h2, h3, h4, h5, h6, h7, h8, fun n a o e1 e2 => ⟨(h9 n a o e1 e2).1, ObAt.lam (ww := ww) (h9 n a o e1 e2).2⟩⟩
theorem Wd.unlam (w : @Wd (ww.lam cv cd) K dk F H st) : @Wd ww K dk F H st := Wd.lam (ww := ww.lam cv cd) (cv := ww.cv) (cd := ww.cd) w
end
section
variable {K : Fg}
/-- the reading that asks just what the mirror gives -/
def teOf [WW] (K : Fg) (f : ME) : TE := fun σ H Q => ∃ (dk : Dk) (H0 : Hp) (F0 F : Fz) (env : Sg) (st : S) (d : D) (st' : S), Good K dk H0 F0 F σ H env st ∧ f env st = some (d, st') ∧
  ∀ v F' H', Ext dk F H F' H' → Good K dk H0 F0 F' σ H' env st' → Rp K dk F' v d → Q v H'
theorem im_teOf {f : ME} : Im K (teOf K f) f := fun dk H0 F0 F σ H env st d st' g e Q q => ⟨dk, H0, F0, F, env, st, d, st', g, e, q⟩
theorem good_vals {dk : Dk} {F : Fz} {H : Hp} {vs : List V} {ds : List D} {st : S} (w : Wd K dk F H st) (r : Rps K dk F vs ds) : Good K dk H F F (vs.map some) H (ds.map Sl.val) st := by
  refine ⟨w, Ext.refl F H, by simp [r.length], fun i s e => ?_, fun i j es fs p hne e1 e2 e3 => ?_⟩
  · obtain ⟨v, d, h1, rfl, h2⟩ := r.slots e
    refine ⟨v, ?_, h2⟩
    rw [List.getElem?_map, h1]
    rfl
  · exfalso
    obtain ⟨v, d, _, h, _⟩ := r.slots e1
    cases h
theorem code_at {F : Fz} {H : Hp} {c : Addr} {q : Str} (s : Sb F H) (h : F c = some (LamX.CodeO c q)) : H c = some (LamX.CodeO c q) := by
  rcases s c _ h with z | ⟨od, kvs, z, _⟩
  · exact z
  · unfold LamX.CodeO at z
    cases z
/-- a(es), a the lambda that the def got: its mirror with the captured data in slot kk -/
def cloM (j kk n : Nat) (b : ME) (a : MA) : ME := fun env st => match env[j]?, env[kk]? with
  | some (.cap none), some (.cap (some cds)) => (a env st).bind fun p => if p.1.length = n then (b ((cds ++ p.1).map Sl.val) p.2) else none
  | _, _ => none
theorem im_clo {f c' : Addr} {cV : List V} {q : Str} {n j kk : Nat} {tb : TE} {b : ME} {ta : TA} {a : MA} (ecv : ww.cv = .ref f :: cV) (ecd : ww.cd = some (c', q)) (hb : Im K tb b) (ha : ImA K ta a) :
    Im K (tClo j f c' q n cV tb ta) (cloM j kk n b a) := fun dk H0 F0 F σ H env st d st' g e Q hq => by
  unfold cloM at e
  split at e
  · rename_i cds h1 h2
    obtain ⟨⟨ds, s1⟩, e1, e⟩ := bnd e
    split at e
    · rename_i hn
      have sj := g.sl j _ h1
      have sk := g.sl kk _ h2
      have sj1 : (σ[j]?).join = ww.cv.head? := sj.1
      have sk1 : Rps K dk F ww.cv.tail cds := sk
      rw [ecv] at sj1 sk1
      have sj2 : F c' = some (LamX.CodeO c' q) := sj.2 c' q ecd
      refine ⟨?_, ?_⟩
      · cases hs : σ[j]? with
        | none => rw [hs] at sj1; cases sj1
        | some x => rw [hs] at sj1; exact congrArg some sj1
      · refine ha dk H0 F0 F σ H env st ds s1 g e1 _ fun vs F1 H1 x1 g1 r1 => ?_
        refine ⟨r1.length.trans hn, code_at g1.wd.sub (x1.f.h _ _ sj2), ?_⟩
        exact hb dk H1 F1 F1 _ H1 _ s1 d st' (good_vals g1.wd ((sk1.mono x1.f).append r1)) e _ fun v F2 H2 x2 g2 r2 => hq v F2 H2 (x1.trans x2) (g1.step x2 g2.wd) r2
    · cases e
  · cases e
end
/-- the body of the def that is handed a lambda as its a: its reading and its mirror, whatever calls of a read and mirror -/
def GivB (ww : WW) (P : Program) (w : World) (K : Fg) (mg : Str → Option Value) (base : Heap) (k : Nat) (Ng : List Str) (qg : Str) (stg : Stmt) (g : Addr) (a : Str) (bb : (MA → ME) → MS) : Prop :=
  ∀ (cdv : Value) (A : Around) (outer : List Env) (s : Shared) (H : Hp) (E : XK) (tl : TA → TE) (lm : MA → ME), Room k (A.deeper (envOfC qg (defScope stg) s.heap.objs.size g cdv)) → (A.deeper (envOfC qg (defScope stg) s.heap.objs.size g cdv)).guards = some [] →
    (∀ (e : Expr) (es : List Expr) (ta : TA) (p1 p2 : Pos), PA (cxOf CX0 P w K mg base Ng qg (defScope stg) g cdv A outer s H E).nox (e :: es) ta →
      starEach (e :: es) (cxOf CX0 P w K mg base Ng qg (defScope stg) g cdv A outer s H E).nox.env = (false, eval e (cxOf CX0 P w K mg base Ng qg (defScope stg) g cdv A outer s H E).nox.env) :: starEach es (cxOf CX0 P w K mg base Ng qg (defScope stg) g cdv A outer s H E).nox.env →
      (backTo p2 (starEach es (cxOf CX0 P w K mg base Ng qg (defScope stg) g cdv A outer s H E).nox.env)).any (·.1) = false →
      PE (cxOf CX0 P w K mg base Ng qg (defScope stg) g cdv A outer s H E).nox (.Call (.Name a p1) (e :: es) [] p2) (tl ta)) →
    (∀ (ta : TA) (m : MA), ImA K ta m → Im K (tl ta) (lm m)) →
    ∃ t, PSs (cxOf CX0 P w K mg base Ng qg (defScope stg) g cdv A outer s H E).nox (defBody stg) t ∧ ImS K t (bb lm)
def GivL (ww : WW) (P : Program) (w : World) (K : Fg) (mg : Str → Option Value) (base : Heap) (k : Nat) (Ng : List Str) (qg : Str) (stg : Stmt) (g : Addr) (a : Str) (bb : (MA → ME) → MS) : Prop :=
  ∀ (cv : List V) (cd : Option (Addr × Str)), GivB (ww.lam cv cd) P w K mg base k Ng qg stg g a bb
/-- captured data -/
def capD (env : Sg) : List Nat → Option (List D)
  | [] => some []
  | k :: ks => match env[k]? with
    | some (.val d) => (capD env ks).map (d :: ·)
    | _ => none
def tabIs (st : S) (i : Nat) (q : Str) : Bool := match st.ob[i]? with
  | some (.tab q') => decide (q' = q)
  | _ => false
theorem tabIs_eq {st : S} {i : Nat} {q : Str} (h : tabIs st i q = true) : st.ob[i]? = some (.tab q) := by
  unfold tabIs at h
  split at h
  · rename_i e
    rw [e, of_decide_eq_true h]
  · cases h
/-- self, the lambda, the def's other names, the captured data last -/
def envL (N : Nat) (d : D) (cds : List D) : Sg := .val d :: .cap none :: (List.replicate (N - 3) Sl.un ++ [.cap (some cds)])
def runL (N : Nat) (b : MS) (d : D) (cds : List D) (st : S) : Option (D × S) := (b (envL N d cds) st).bind fun p => match p.1 with
  | .rt d => some (d, p.2)
  | .nx _ => some (.non, p.2)
  | _ => none
/-- o.m(lambda ..) -/
def lcM (c m : Str) (ti : Nat) (q : Str) (ks : List Nat) (mf : D → List D → S → Option (D × S)) (fo : ME) : ME := fun env st => (fo env st).bind fun p => (refOf p.1).bind fun n => (insAt [c] p.2 n).bind fun z => if m ∉ z.2.1 then (capD env ks).bind fun cds => if tabIs p.2 ti q = true then mf p.1 cds p.2 else none else none
section
variable {K : Fg} {dk : Dk} {F F0 : Fz} {H H0 : Hp} {st : S} {env : Sg} {σ : L2.St}
theorem capD_ok (g : Good K dk H0 F0 F σ H env st) : ∀ {ks : List Nat} {cds : List D}, capD env ks = some cds → ∃ cV : List V, cV.length = ks.length ∧ Rps K dk F cV cds ∧ ∀ (i k : Nat), ks[i]? = some k → ∃ v, σ[k]? = some (some v) ∧ cV[i]? = some v
  | [], cds, e => by
    cases e
    exact ⟨[], rfl, .nil, fun i k h => by simp at h⟩
  | k :: ks, cds, e => by
    unfold capD at e
    split at e
    · rename_i d hd
      obtain ⟨r, e1, e2⟩ := mpd e
      subst e2
      obtain ⟨cV, h1, h2, h3⟩ := capD_ok g e1
      obtain ⟨v, hv, rv⟩ := g.sl k _ hd
      refine ⟨v :: cV, by simp [h1], .cons rv h2, fun i k' h => ?_⟩
      cases i with
      | zero =>
        cases h
        refine ⟨v, ?_, rfl⟩
        cases q : σ[k]? with
        | none => rw [q] at hv; cases hv
        | some x => rw [q] at hv; exact congrArg some hv
      | succ i => exact h3 i k' h
    · cases e
/-- what the making of the lambda leaves -/
theorem made_ok {P c' : Addr} {ps : Array Value} {q : Str} {H1 : Hp} {i : Nat} (w : Wd K dk F H st) (hi : F.mu[i]? = some P) (ho : st.ob[i]? = some (.tab q)) (hP : H P = some (.tbl ps)) (ha : ∀ (pos : Pos) (cv : Value), codeAmong pos ps.toList = some cv → ∃ c, cv = .ref c ∧ F c = some (LamX.CodeO c q)) (M : Made H P ps q H1 c') :
    ∃ F1 : Fz, Ext dk F H F1 H1 ∧ Wd K dk F1 H1 st ∧ F1 c' = some (LamX.CodeO c' q) := by
  rcases M.or with ⟨rfl, pos, hc⟩ | ⟨ps', hn, rfl, ht, hps⟩
  · obtain ⟨c, e1, e2⟩ := ha pos _ hc
    cases e1
    exact ⟨F, Ext.refl _ _, w, e2⟩
  · have nP : P ≠ c' := ne_of_none hP hn
    have fn : F c' = none := w.sub.free hn
    have cmu : c' ∉ F.mu := w.nomu hn
    have Pmu : P ∈ F.mu := List.mem_of_getElem? hi
    have other : ∀ a, a ≠ P → a ≠ c' → upd (upd H P (.tbl ps')) c' (LamX.CodeO c' q) a = H a := fun a h1 h2 => by rw [upd_ne h2, upd_ne h1]
    have atP : upd (upd H P (.tbl ps')) c' (LamX.CodeO c' q) P = some (.tbl ps') := by rw [upd_ne nP, upd_same]
    have nfC : ¬ Fro (LamX.CodeO c' q) := by rintro ⟨_, _, z⟩; unfold LamX.CodeO at z; cases z
    have d1P : dk.1 ≠ P := fun z => w.f1.2 (z ▸ Pmu)
    have d2P : dk.2 ≠ P := fun z => w.f2.2 (z ▸ Pmu)
    have d1c : dk.1 ≠ c' := ne_of_none w.d1 hn
    have d2c : dk.2 ≠ c' := ne_of_none w.d2 hn
    have le : Le F (F.up c' (LamX.CodeO c' q)) := Le.new fn
    refine ⟨F.up c' (LamX.CodeO c' q), ⟨fun a o h h1 h2 h3 => ?_, le, fun a h1 h2 => ?_, fun a h => ?_, fun a h => .inl h, fun a o h f => ?_⟩, ?_, Fz.up_same⟩
    · have na : a ≠ P := fun z => by
        subst z
        rcases h3 with z | ⟨od, u, z⟩
        · exact z Pmu
        · rw [hP] at h
          rw [z] at h
          cases h
      rw [other a na (ne_of_none h hn)]
      exact h
    · rw [Fz.up_ne (fun e => h2 (by rw [e]; exact hn))]
      exact h1
    · by_cases z : a = P
      · rw [z, atP]; exact fun z => nomatch z
      · rw [other a z (fun e => h (by rw [e]; exact hn))]; exact h
    · by_cases hc : a = c'
      · subst hc; rw [upd_same] at h; cases h; exact absurd f nfC
      · by_cases z : a = P
        · rw [z, atP] at h
          cases h
          obtain ⟨_, _, z⟩ := f
          cases z
        · rw [other a z hc] at h; exact h
    · refine ⟨fun a o e => ?_, ?_, ?_, ⟨?_, w.f1.2⟩, ⟨?_, w.f2.2⟩, w.ne, w.ml, w.nd, fun n a o h1 h2 => ?_⟩
      · by_cases hc : a = c'
        · subst hc
          rw [Fz.up_same] at e
          cases e
          exact .inl upd_same
        · rw [Fz.up_ne hc] at e
          have na : a ≠ P := fun z => by
            have := (w.ob i P _ hi ho).1
            rw [z, this] at e
            cases e
          rw [other a na hc]
          exact w.sub a o e
      · rw [other _ d1P d1c]; exact w.d1
      · rw [other _ d2P d2c]; exact w.d2
      · rw [Fz.up_ne d1c]; exact w.f1.1
      · rw [Fz.up_ne d2c]; exact w.f2.1
      · have h1' : F.mu[n]? = some a := h1
        obtain ⟨q1, q2⟩ := w.ob n a o h1' h2
        have nc : a ≠ c' := fun z => cmu (z ▸ List.mem_of_getElem? h1')
        refine ⟨by rw [Fz.up_ne nc]; exact q1, ?_⟩
        by_cases hn : a = P
        · subst hn
          have hni : n = i := by
            have l1 : n < F.mu.length := by
              by_cases z : n < F.mu.length
              · exact z
              · rw [List.getElem?_eq_none (by omega)] at h1'; cases h1'
            exact (List.getElem?_inj l1 w.nd).mp (h1'.trans hi.symm)
          subst hni
          rw [ho] at h2
          cases h2
          cases q2 with
          | tab hb hh _ _ =>
            refine .tab hb atP ht fun pos cv hc => ?_
            rcases hps pos cv hc with z | z
            · obtain ⟨c, e1, e2⟩ := ha pos cv z
              exact ⟨c, e1, le.h _ _ e2⟩
            · exact ⟨c', z, Fz.up_same⟩
        · exact q2.keep (fun o e => by rw [other a hn nc]; exact e) le
end
theorem good_L {K : Fg} {dk : Dk} {F : Fz} {H : Hp} {Ng : List Str} {a f : Addr} {d : D} {cds : List D} {cV : List V} {c' : Addr} {q : Str} {st : S} (ecv : ww.cv = .ref f :: cV) (ecd : ww.cd = some (c', q)) (hN : 3 ≤ Ng.length) (w : Wd K dk F H st) (r : Rp K dk F (.ref a) d) (rc : Rps K dk F cV cds) (hc : F c' = some (LamX.CodeO c' q)) :
    Good K dk H F F (L2.start Ng [.ref a, .ref f]) H (envL Ng.length d cds) st := by
  obtain ⟨m, hm⟩ : ∃ m, Ng.length = m + 3 := ⟨Ng.length - 3, by omega⟩
  have es : L2.start Ng [.ref a, .ref f] = some (.ref a) :: some (.ref f) :: List.replicate (m + 1) none := by
    unfold L2.start
    rw [hm]
    rfl
  rw [es]
  have ee : envL Ng.length d cds = .val d :: .cap none :: (List.replicate m Sl.un ++ [.cap (some cds)]) := by
    unfold envL
    rw [hm]
    rfl
  rw [ee]
  have low : ∀ (i : Nat) (s : Sl), (List.replicate m Sl.un ++ [Sl.cap (some cds)])[i]? = some s → s = .un ∨ s = .cap (some cds) := fun i s e => by
    have := List.mem_of_getElem? e
    rcases List.mem_append.mp this with z | z
    · exact .inl (List.eq_of_mem_replicate z)
    · exact .inr (List.mem_singleton.mp z)
  refine ⟨w, Ext.refl _ _, by simp, fun i s e => ?_, fun i j es fs p hne e1 e2 e3 => ?_⟩
  · match i with
    | 0 => cases e; exact ⟨_, rfl, r⟩
    | 1 =>
      cases e
      refine ⟨?_, fun c y hy => ?_⟩
      · show some (V.ref f) = ww.cv.head?
        rw [ecv]; rfl
      · have hy' : ww.cd = some (c, y) := hy
        rw [ecd] at hy'
        cases hy'
        exact hc
    | i + 2 =>
      rcases low i s e with z | z
      · subst z; trivial
      · subst z
        show Rps K dk F ww.cv.tail cds
        rw [ecv]; exact rc
  · exfalso
    match i with
    | 0 => cases e1
    | 1 => cases e1
    | i + 2 =>
      rcases low i _ e1 with z | z <;> cases z
/-- o.m(lambda ..) -/
theorem pe_lamM {X : Cx} {k : Nat} {g cc P C : Addr} {c m a q qg : Str} {stg : Stmt} {fd : FuncData} {Ng : List Str} {bb : (MA → ME) → MS} {o : Expr} {to : TE} {fo b : ME} {params : Arguments} {body : Expr} {scope : Scope} {caps pars : List Str} {ks : List Nat} {ti : Nat} {pl : Sem Bool} {lpos apos pos : Pos}
    (he : PE X o to) (ho : Im X.K to fo) (hC : clsOf X.K c = some C) (cl : Cls X.K C) (hm : Meth X.K C m g) (Fn : Fun X.K m qg stg g fd) (Sg : FnScope Ng ["self", a] (defScope stg)) (hN3 : 3 ≤ Ng.length) (hNg : Ng[1]? = some a) (hva : Vis (defScope stg) a) (hb : Binds X.K fd ["self", a] [])
    (hG : GivL ww X.prog X.w X.K X.mg X.base (k + 1) Ng qg stg g a bb) (hr : Room (k + 2) X.A) (gd : X.A.guards = some [])
    (L : LamP X.env.scope scope caps pars) (TB : LamX.TabB X.base X.mg cc P) (hcode : X.env.code = .ref cc) (hq : q = X.env.qual ++ "<lambda>") (htb : ww.tb q = some P) (hdef : defaultsOf params X.env = ([], []))
    (hbind : ∀ (q : Str) (cl : List (Str × Addr)) (pm cv ctv : Value) (us : List Value), us.length = pars.length → bindArgs (PySem.W.kla_fn "<lambda>" q params body scope cl pm cv ctv) ⟨us, []⟩ = pure (pars.zip us))
    (hks : ks.map (X.N[·]?) = caps.map some)
    (hbody : ∀ (cv : List V) (cd : Option (Addr × Str)), ∃ tb, (∀ (f c' : Addr) (A : Around) (outer : List Env) (s : Shared) (H : Hp), Room k (A.deeper (LamX.lamEnv X scope s.heap.objs.size f c')) → (A.deeper (LamX.lamEnv X scope s.heap.objs.size f c')).guards = some [] → PE (lcx X A outer s H scope f c' (caps ++ pars)) body tb) ∧ @Im X.K (ww.lam cv cd) tb b)
    (hda : (a == ("__debug__" : Str)) = false := by decide) (hca : (a == ("__classdict__" : Str)) = false := by decide)
    (hst : starEach [.Lambda params body scope lpos] X.env = (false, eval (.Lambda params body scope lpos) X.env) :: starEach [] X.env := by rfl) (hpl : (backTo pos (starEach [] X.env)).any (·.1) = false := by rfl)
    (ht : eval (.Call (.Attribute o m apos) [.Lambda params body scope lpos] [] pos) X.env = (do
      let ov ← eval o X.env
      standAt apos.atName
      let (f, first) ← holding [ov] (getMethod ov m pl)
      callWith pos f first (backTo pos (starEach [.Lambda params body scope lpos] X.env)) (backToKw pos (keywordEach [] X.env))) := by rfl) :
    PE X (.Call (.Attribute o m apos) [.Lambda params body scope lpos] [] pos) (teOf X.K (lcM c m ti q ks (runL Ng.length (bb (cloM 1 (Ng.length - 1) pars.length b))) fo)) := by
  refine ⟨fun pins s σ H Q I h => ?_⟩
  obtain ⟨dk, H0, F0, F, env, st, d, st', gg, e, go⟩ := h
  obtain ⟨⟨x, s1⟩, e1, e⟩ := bnd e
  obtain ⟨j, e2, e⟩ := bnd e
  obtain ⟨z, e3, e⟩ := bnd e
  split at e
  · rename_i hmz
    obtain ⟨cds, e4, e⟩ := bnd e
    split at e
    · rename_i htab
      have hx : x = .ref j := refOf_eq e2
      subst hx
      refine PySem.W.methodCall_KW (pl := pl) (thn (he.run pins s σ H _ I (ho dk H0 F0 F σ H env st _ s1 gg e1 (fun v H' => ∃ F1, Ext dk F H F1 H' ∧ Good X.K dk H0 F0 F1 σ H' env s1 ∧ Rp X.K dk F1 v (.ref j)) fun v F1 H1 x1 g1 r1 => ⟨F1, x1, g1, r1⟩)) fun u t1 ⟨y, H1, I1, ry, F1, x1, g1, r1⟩ => ?_) ht
      obtain ⟨b1, rfl, hb1⟩ := r1.refn
      obtain rfl : u = Value.ref b1 := ry
      obtain ⟨C', dx, vs, k1, k2, k3, k4⟩ := g1.wd.insAt hb1 e3
      have hz : z.1 = c := List.mem_singleton.mp (insAt_eq e3).2
      rw [hz, hC] at k1
      cases k1
      refine getmeth_ok I1 k2 cl hm (look_none hmz) ?_
      obtain ⟨cV, cl1, cl2, cl3⟩ := capD_ok g1 e4
      have hob : s1.ob[ti]? = some (.tab q) := tabIs_eq htab
      obtain ⟨P', hP'⟩ : ∃ P', F1.mu[ti]? = some P' := by
        have l : ti < F1.mu.length := by
          rw [g1.wd.ml]
          by_cases z : ti < s1.ob.length
          · exact z
          · rw [List.getElem?_eq_none (by omega)] at hob; cases hob
        exact ⟨_, List.getElem?_eq_getElem l⟩
      obtain ⟨q1, q2⟩ := g1.wd.ob ti P' _ hP' hob
      cases q2 with
      | @tab _ ps hb2 hps ht2 hco =>
        have hPP : P' = P := Option.some.inj (hb2.symm.trans htb)
        subst hPP
        have hkl : ks.length = caps.length := by
          have := congrArg List.length hks
          simpa using this
        refine PySem.W.callWith_K (first := [.ref b1]) (h₀ := X.base) I1.ok.mod.kin hm.kp ?_ hst hpl
        show wpAny _ _ (spliced ((false, eval (.Lambda params body scope lpos) X.env) :: backTo pos (starEach [] X.env))) _ _ t1
        refine Calls.spliced_cons (lam_make I1 TB hcode hq hps ht2 (fun p cv hc => ?_) hdef (fun y hy e => ?_) fun f c' pm ctv H2 t2 I2 M hf hfn hfr => ?_)
        · obtain ⟨c0, z1, z2⟩ := hco p cv hc
          exact ⟨c0, z1, code_at g1.wd.sub z2⟩
        · rcases L.free y hy e with z | z
          · exact I1.ok.has _ (.inl z)
          · exact I1.ok.has _ (.inr z)
        refine Calls.spliced_nil ⟨I2.kIn, ?_⟩
        obtain ⟨F2, x2, w2, hc2⟩ := made_ok g1.wd hP' hob hps hco M
        have g2 := g1.step x2 w2
        obtain ⟨oc, od, kV, doc, pm', an, cdv, ct, osl, rfl, lk, hcd⟩ := Fn.ex
        have rc : codeAny (model X.prog X.w) X.A (.call (.ref g) ⟨[.ref b1, .ref f], []⟩) (CR CX0 X.stack X.prog X.w H2 t2 Q E0) t2 := by
          have bb2 := hb t2 [.ref b1, .ref f] I2.kIn rfl
          rw [List.append_nil] at bb2
          refine LamX.run_ofS (N := Ng) (ps := ["self", a]) (us := [.ref b1, .ref f]) (vs := [.ref b1, .ref f]) lk hcd Sg hr I2.env0 bb2 (.cons rfl (.cons rfl .nil)) rfl fun hr' => ?_
          have hcap : ∀ (i : Nat) (x : Str), caps[i]? = some x → ∃ (k : Nat) (v : V), X.N[k]? = some x ∧ σ[k]? = some (some v) ∧ cV[i]? = some v := fun i x hx => by
            have hki : (ks.map (X.N[·]?))[i]? = some (some x) := by rw [hks, List.getElem?_map, hx]; rfl
            rw [List.getElem?_map] at hki
            obtain ⟨kk, hk1, hk2⟩ := mpd hki
            obtain ⟨v, v1, v2⟩ := cl3 i kk hk1
            exact ⟨kk, v, hk2, v1, v2⟩
          obtain ⟨tb, hb3, hb4⟩ := hbody (.ref f :: cV) (some (c', q))
          obtain ⟨t, h1, h2⟩ := hG (.ref f :: cV) (some (c', q)) cdv X.A X.stack t2 H2 E0 (fun ta => tClo 1 f c' q pars.length cV tb ta) (cloM 1 (Ng.length - 1) pars.length b) hr' (guards_deeper _ gd)
            (fun e es ta p1 p2 ha he hpl => pe_clo (Eg := E0) (cdg := cdv) I2 L hq hf hfn hfr hcap (cl1.trans hkl) (fun us hl => hbind _ _ _ _ _ us hl) hr' (guards_deeper _ gd) (fun A outer s H hr gd => hb3 f c' A outer s H hr gd) hNg hva ha hda hca he hpl)
            (fun ta mm hm => im_clo (ww := ww.lam (.ref f :: cV) (some (c', q))) rfl rfl hb4 hm)
          · refine ⟨t, h1.nox, ?_⟩
            obtain ⟨⟨fl, s2⟩, e5, e⟩ := bnd e
            have w2' : @Wd (ww.lam (.ref f :: cV) (some (c', q))) X.K dk F2 H2 s1 := w2.lam
            refine h2 dk H2 F2 F2 _ H2 _ s1 fl s2 (good_L (ww := ww.lam (.ref f :: cV) (some (c', q))) (cV := cV) rfl rfl hN3 w2' ((r1).mono x2.f) (cl2.mono x2.f) hc2) e5 _ ?_
            have fin : ∀ (v : V) (F' : Fz) (H' : Hp) (d' : D) (s' : S), Ext dk F2 H2 F' H' → @Wd (ww.lam (.ref f :: cV) (some (c', q))) X.K dk F' H' s' → Rp X.K dk F' v d' → (d', s') = (d, st') → Q v H' := fun v F' H' d' s' x3 w3 r3 eq => by
              cases eq
              exact go v F' H' ((x1.trans x2).trans x3) (g2.step x3 w3.unlam) r3
            cases fl with
            | rt d' => exact fun v F' H' x w r => fin v F' H' d' s2 x w r (Option.some.inj e)
            | nx en =>
              exact fun F' σ' H' le g => by
                obtain ⟨g1, g2, _⟩ := g
                exact fin .non F' H' .non s2 g2 g1 .non (Option.some.inj e)
            | bk en => cases e
            | ct en => cases e
        refine wpAny_call (codeAny_mono rc fun r s2 hq => ?_)
        cases r with
        | error e => exact (show False from hq).elim
        | ok fl =>
          cases fl with
          | ret u => exact I2.after hq
          | next => exact False.elim hq
          | brk => exact False.elim hq
          | cont => exact False.elim hq
    · cases e
  · cases e
end MD

set_option Elab.async false
set_option linter.all false
set_option maxRecDepth 100000
set_option maxHeartbeats 2000000
namespace MD
open PySem PySem.Spec PyProof.Rows L2
variable {ww : WW}
/-! ### zip of three tuples -/
def It3 (K : Fg) (a b c : Addr) (n1 n2 n3 : Nat) : It :=
  ⟨fun i H => ∃ (xs ys zs : List V) (x y u : V), SqT K H a xs ∧ SqT K H b ys ∧ SqT K H c zs ∧ (xs.length = n1 ∧ ys.length = n2 ∧ zs.length = n3) ∧ xs[i]? = some x ∧ ys[i]? = some y ∧ zs[i]? = some u,
    fun i H v H' => ∃ T x y u, v = .ref T ∧ H T = none ∧ H' = upd H T (.tup [x, y, u]) ∧ (∀ xs, SqT K H a xs → xs[i]? = some x) ∧ (∀ ys, SqT K H b ys → ys[i]? = some y) ∧ ∀ zs, SqT K H c zs → zs[i]? = some u,
    fun i H => ∃ xs ys zs : List V, SqT K H a xs ∧ SqT K H b ys ∧ SqT K H c zs ∧ (xs.length = n1 ∧ ys.length = n2 ∧ zs.length = n3) ∧ (n1 ≤ i ∨ n2 ≤ i ∨ n3 ≤ i)⟩
structure Z3 (a b c : Addr) (n1 n2 n3 : Nat) (z TI TO i1 i2 i3 : Addr) (i : Nat) (h : Heap) : Prop where
  z : IsZip h z TI TO .none
  ti : IsTupOf3 h TI (.ref i1) (.ref i2) (.ref i3)
  to : ∃ x y u, IsTupOf3 h TO x y u
  h1 : h.IsTupleIter i1 a i
  h2 : h.IsTupleIter i2 b i
  h3 : h.IsTupleIter i3 c i
  le : i ≤ n1 ∧ i ≤ n2 ∧ i ≤ n3
theorem apart_iter {h : Heap} {it t t' : Addr} {i : Nat} {items : Array Value} (a : h.IsTupleIter it t' i) (p : h.IsTuple t items) : t ≠ it := by
  rintro rfl
  obtain ⟨o, e, _, d⟩ := a
  obtain ⟨o', e', _, n, d'⟩ := p
  rw [e] at e'
  cases e'
  rw [d] at d'
  cases d'
theorem mem6 {z TI TO i1 i2 i3 q : Addr} (h : q ∈ [z, TI, TO, i1, i2, i3]) : q = z ∨ q = TI ∨ q = TO ∨ q = i1 ∨ q = i2 ∨ q = i3 := by simpa using h
theorem turn_zip3 {P : Program} {w : World} {K : Fg} {elts : List Expr} {kk : Nat} {tpos : Pos} {a b c z TI TO i1 i2 i3 : Addr} {n1 n2 n3 : Nat} (S : ZipSep3 z TI TO i1 i2 i3 [i1, a] [i2, b] [i3, c]) :
    Turn P w K (.Tuple elts kk tpos) (It3 K a b c n1 n2 n3) [z, TI, TO, i1, i2, i3] z (Z3 a b c n1 n2 n3 z TI TO i1 i2 i3) where
  mem := List.mem_cons_self ..
  obj := fun i h st q hq => by
    obtain ⟨x, y, u, hTO⟩ := st.to
    obtain ⟨o1, e1, _, d1⟩ := st.h1
    obtain ⟨o2, e2, _, d2⟩ := st.h2
    obtain ⟨o3, e3, _, d3⟩ := st.h3
    rcases mem6 hq with e | e | e | e | e | e <;> subst e
    · exact ⟨_, st.z, fun v e => nomatch e⟩
    · exact ⟨_, st.ti, fun v e => nomatch e⟩
    · exact ⟨_, hTO, fun v e => nomatch e⟩
    · exact ⟨o1, e1, fun v e => by rw [d1] at e; cases e⟩
    · exact ⟨o2, e2, fun v e => by rw [d2] at e; cases e⟩
    · exact ⟨o3, e3, fun v e => by rw [d3] at e; cases e⟩
  keep := fun i h h' st k => by
    obtain ⟨x, y, u, hTO⟩ := st.to
    exact ⟨k z (by simp) _ st.z, k TI (by simp) _ st.ti, ⟨x, y, u, k TO (by simp) _ hTO⟩, st.h1.at fun o e => k i1 (by simp) o e, st.h2.at fun o e => k i2 (by simp) o e, st.h3.at fun o e => k i3 (by simp) o e, st.le⟩
  item := by
    intro X eP ew eK calm i pins s σ H E I hf st hg
    subst eP ew eK
    obtain ⟨x0, y0, u0, hTO⟩ := st.to
    obtain ⟨xs, ys, zs, x, y, u, qx, qy, qu, ⟨ln1, ln2, ln3⟩, gx, gy, gu⟩ := hg
    obtain ⟨ix, rx, px, _⟩ := I.tuple qx
    obtain ⟨iy, ry, py, _⟩ := I.tuple qy
    obtain ⟨iu, ru, pu, _⟩ := I.tuple qu
    obtain ⟨vx, wx, kx⟩ := rx.get gx
    obtain ⟨vy, wy, ky⟩ := ry.get gy
    obtain ⟨vu, wu, ku⟩ := ru.get gu
    have lx : i < ix.toArray.size := by
      by_cases z : i < ix.length
      · simpa using z
      · rw [List.getElem?_eq_none (by omega)] at wx; cases wx
    have ly : i < iy.toArray.size := by
      by_cases z : i < iy.length
      · simpa using z
      · rw [List.getElem?_eq_none (by omega)] at wy; cases wy
    have lu : i < iu.toArray.size := by
      by_cases z : i < iu.length
      · simpa using z
      · rw [List.getElem?_eq_none (by omega)] at wu; cases wu
    have hd := I.ok.hd calm
    have px' : s.heap.IsTuple a ix.toArray := px
    have py' : s.heap.IsTuple b iy.toArray := py
    have pu' : s.heap.IsTuple c iu.toArray := pu
    have hzl : z < s.heap.objs.size := Heap.lt_size st.z
    refine wpAny_pyNext_zipD3_item S (Draws.tuple (A := X.A.in1) hd i1 a (apart_iter st.h1 px') ix.toArray) (Draws.tuple (A := X.A.in1) hd i2 b (apart_iter st.h2 py') iy.toArray) (Draws.tuple (A := X.A.in1) hd i3 c (apart_iter st.h3 pu') iu.toArray) st.z st.ti hTO ⟨st.h1, px'⟩ ⟨st.h2, py'⟩ ⟨st.h3, pu'⟩ lx ly lu
      fun y1 y2 y3 h' tk p1 p2 p3 z' TO' s1' s2' s3' hT hsz hk => ?_
    have e1 : y1 = vx := by
      have : ix[i]? = some y1 := by simpa using p1
      rw [wx] at this; exact (Option.some.inj this).symm
    have e2 : y2 = vy := by
      have : iy[i]? = some y2 := by simpa using p2
      rw [wy] at this; exact (Option.some.inj this).symm
    have e3 : y3 = vu := by
      have : iu[i]? = some y3 := by simpa using p3
      rw [wu] at this; exact (Option.some.inj this).symm
    subst e1 e2 e3
    refine ⟨_, rfl, wpAny_letOwnedTupleGo_zip (s := { s with heap := h', toks := tk }) z' fun h2 z2 sb => ?_⟩
    have hTn : h2.get? s.heap.objs.size = some { cls := .type "tuple", data := .seq #[y1, y2, y3] } := (sb.2 _ (Nat.ne_of_gt hzl)).trans hT
    have new : ObjOk X.prog X.w (upd H s.heap.objs.size (.tup [x, y, u])) h2 s.heap.objs.size (.tup [x, y, u]) :=
      ⟨by show 3 ≤ sizeLine; decide, [y1, y2, y3], .cons kx (.cons ky (.cons ku .nil)), ⟨_, hTn, rfl, _, rfl⟩⟩
    have J : Inv X pins σ (upd H s.heap.objs.size (.tup [x, y, u])) { s with heap := h2, toks := tk } :=
      I.turnedNew (t' := tk) (ch := [z, TI, TO, i1, i2, i3]) (fun q o hb e => (sb.2 q (fun e' => hb (by simp [e']))).trans (hk q o (fun e' => hb (by simp [e'])) (fun e' => hb (by simp [e'])) (fun e' => hb (by simp [e'])) (fun e' => hb (by simp [e'])) (fun e' => hb (by simp [e'])) e)) hf (Nat.le_refl _) new
    have g1 : xs.length ≥ i + 1 := by
      by_cases q : i < xs.length
      · exact q
      · rw [List.getElem?_eq_none (by omega)] at gx; cases gx
    have g2 : ys.length ≥ i + 1 := by
      by_cases q : i < ys.length
      · exact q
      · rw [List.getElem?_eq_none (by omega)] at gy; cases gy
    have g3 : zs.length ≥ i + 1 := by
      by_cases q : i < zs.length
      · exact q
      · rw [List.getElem?_eq_none (by omega)] at gu; cases gu
    refine ⟨.ref s.heap.objs.size, _, J, rfl, ⟨_, x, y, u, rfl, I.hok.fresh (Nat.le_refl _), rfl, fun l hl => by rw [I.tuple_inj hl qx]; exact gx, fun l hl => by rw [I.tuple_inj hl qy]; exact gy, fun l hl => by rw [I.tuple_inj hl qu]; exact gu⟩, ⟨z2, ?_, ⟨y1, y2, y3, ?_⟩, ?_, ?_, ?_, by omega⟩, fun q hq => ?_⟩
    · exact (sb.2 _ S.TIz).trans (hk _ _ S.TIz S.TITO S.TIi1 S.TIi2 S.TIi3 st.ti)
    · exact (sb.2 _ S.TOz).trans TO'
    · exact s1'.1.at fun o e => (sb.2 _ S.zi1.symm).trans e
    · exact s2'.1.at fun o e => (sb.2 _ S.zi2.symm).trans e
    · exact s3'.1.at fun o e => (sb.2 _ S.zi3.symm).trans e
    · have hlt : q < s.heap.objs.size := by
        obtain ⟨_, w1, _⟩ := st.h1
        obtain ⟨_, w2, _⟩ := st.h2
        obtain ⟨_, w3, _⟩ := st.h3
        rcases mem6 hq with e | e | e | e | e | e <;> subst e
        · exact hzl
        · exact Heap.lt_size st.ti
        · exact Heap.lt_size hTO
        · exact Heap.lt_size w1
        · exact Heap.lt_size w2
        · exact Heap.lt_size w3
      rw [upd_ne (Nat.ne_of_lt hlt)]
      exact (hf q hq).1
  done := by
    intro X eP ew eK calm i pins s σ H E I hf st hg
    subst eP ew eK
    obtain ⟨x0, y0, u0, hTO⟩ := st.to
    obtain ⟨xs, ys, zs, qx, qy, qu, ⟨ln1, ln2, ln3⟩, hend⟩ := hg
    obtain ⟨ix, rx, px, _⟩ := I.tuple qx
    obtain ⟨iy, ry, py, _⟩ := I.tuple qy
    obtain ⟨iu, ru, pu, _⟩ := I.tuple qu
    have px' : s.heap.IsTuple a ix.toArray := px
    have py' : s.heap.IsTuple b iy.toArray := py
    have pu' : s.heap.IsTuple c iu.toArray := pu
    have hd := I.ok.hd calm
    have k1 : ix.toArray.size = n1 := by rw [List.size_toArray, ← rx.length, ln1]
    have k2 : iy.toArray.size = n2 := by rw [List.size_toArray, ← ry.length, ln2]
    have k3 : iu.toArray.size = n3 := by rw [List.size_toArray, ← ru.length, ln3]
    have le := st.le
    exact wpAny_pyNext_zipD3_end S (Draws.tuple (A := X.A.in1) hd i1 a (apart_iter st.h1 px') ix.toArray) (Draws.tuple (A := X.A.in1) hd i2 b (apart_iter st.h2 py') iy.toArray) (Draws.tuple (A := X.A.in1) hd i3 c (apart_iter st.h3 pu') iu.toArray) st.z st.ti hTO ⟨st.h1, px'⟩ ⟨st.h2, py'⟩ ⟨st.h3, pu'⟩ (by omega) (by omega) (by omega) (by omega)
      fun h' tk hk => ⟨rfl, I.turnedL (t' := tk) (ch := [z, TI, TO, i1, i2, i3]) (fun q o hb e => hk q o (fun e' => hb (by simp [e'])) (fun e' => hb (by simp [e'])) (fun e' => hb (by simp [e'])) (fun e' => hb (by simp [e'])) (fun e' => hb (by simp [e'])) e) hf⟩
  self := fun A i s Q E st h => wpAny_pyIter_zip st.z h
def iZip3 (K : Fg) (ta : TA) : TI := fun σ H R => ta σ H fun vs H1 => ∃ a b c xs ys zs, vs = [.ref a, .ref b, .ref c] ∧ SqT K H1 a xs ∧ SqT K H1 b ys ∧ SqT K H1 c zs ∧ R (It3 K a b c xs.length ys.length zs.length) H1
theorem nm2 {x y u : Nat} (h : x ≠ y) (h' : x ≠ u) : x ∉ [y, u] := fun z => by
  rcases List.mem_cons.mp z with e | e
  · exact h e
  · exact h' (List.mem_singleton.mp e)
theorem sep3_new {n a b c : Nat} (ha : a < n) (hb : b < n) (hc : c < n) : ZipSep3 (n + 5) (n + 3) (n + 4) n (n + 1) (n + 2) [n, a] [n + 1, b] [n + 2, c] where
  TIz := show (n + 3 : Nat) ≠ n + 5 by omega
  TOz := show (n + 4 : Nat) ≠ n + 5 by omega
  TITO := show (n + 3 : Nat) ≠ n + 4 by omega
  TIi1 := show (n + 3 : Nat) ≠ n by omega
  mem1 := List.mem_cons_self ..
  zf1 := nm2 (by omega) (by omega)
  Tf1 := nm2 (by omega) (by omega)
  TIi2 := show (n + 3 : Nat) ≠ n + 1 by omega
  mem2 := List.mem_cons_self ..
  zf2 := nm2 (by omega) (by omega)
  Tf2 := nm2 (by omega) (by omega)
  TIi3 := show (n + 3 : Nat) ≠ n + 2 by omega
  mem3 := List.mem_cons_self ..
  zf3 := nm2 (by omega) (by omega)
  Tf3 := nm2 (by omega) (by omega)
  sep1_2 := nm2 (by omega) (by omega)
  sep1_3 := nm2 (by omega) (by omega)
  sep2_1 := nm2 (by omega) (by omega)
  sep2_3 := nm2 (by omega) (by omega)
  sep3_1 := nm2 (by omega) (by omega)
  sep3_2 := nm2 (by omega) (by omega)
theorem pi_zip3 {X : Cx} {e e2 e3 : Expr} {ta : TA} {p pos tpos : Pos} {elts : List Expr} {kk : Nat} (hg : Gl X "zip") (hm : X.mg "zip" = none) (ha : PA X [e, e2, e3] ta)
    (hs : starEach [e, e2, e3] X.env = (false, eval e X.env) :: starEach [e2, e3] X.env := by rfl) (hpl : (backTo pos (starEach [e2, e3] X.env)).any (·.1) = false := by rfl) :
    PI X (.Tuple elts kk tpos) (.Call (.Name "zip" p) [e, e2, e3] [] pos) (iZip3 X.K ta) := by
  refine ⟨fun pins s σ H R I h => ?_⟩
  refine Call_ (ld_blt I hg hm PyProof.Rows.boot_zip (PyProof.Rows.callWith_type1 (thn (ha.run pos pins s σ H _ I h) fun us s1 ⟨vs, H1, I1, r1, q1⟩ => ?_) hs hpl))
  obtain ⟨a, b, c, xs, ys, zs, rfl, qx, qy, qu, q⟩ := q1
  cases r1 with
  | cons ra r1 =>
    cases r1 with
    | cons rb r1 =>
      cases r1 with
      | cons rc r1 =>
        cases r1
        cases ra
        cases rb
        cases rc
        obtain ⟨ix, rx, px, _⟩ := I1.tuple qx
        obtain ⟨iy, ry, py, _⟩ := I1.tuple qy
        obtain ⟨iu, ru, pu, _⟩ := I1.tuple qu
        have px' : s1.heap.IsTuple a ix.toArray := px
        have py' : s1.heap.IsTuple b iy.toArray := py
        have pu' : s1.heap.IsTuple c iu.toArray := pu
        obtain ⟨o1, ho1, _⟩ := id px'
        obtain ⟨o2, ho2, _⟩ := id py'
        obtain ⟨o3, ho3, _⟩ := id pu'
        refine zip_begins3 (begins_tuple a ix.toArray) (begins_tuple b iy.toArray) (begins_tuple c iu.toArray) px' py' pu' fun h' hz hTI hTO h1 h2 h3 hsz hk => wpAny_pyIter_zip hz ?_
        have J : Inv X pins σ H1 { s1 with heap := h' } := I1.kept (t' := s1.toks) hk
        refine ⟨s1.heap.objs.size + 5, [s1.heap.objs.size + 5, s1.heap.objs.size + 3, s1.heap.objs.size + 4, s1.heap.objs.size, s1.heap.objs.size + 1, s1.heap.objs.size + 2], _, _, H1, rfl, J,
          turn_zip3 (sep3_new (Heap.lt_size ho1) (Heap.lt_size ho2) (Heap.lt_size ho3)), ⟨hz, hTI, ⟨_, _, _, hTO⟩, ⟨_, h1, rfl, rfl⟩, ⟨_, h2, rfl, rfl⟩, ⟨_, h3, rfl, rfl⟩, Nat.zero_le _, Nat.zero_le _, Nat.zero_le _⟩, fun d hd => ?_, q⟩
        have hle : s1.heap.objs.size ≤ d := by
          rcases mem6 hd with e | e | e | e | e | e <;> subst e
          · exact Nat.le_add_right _ _
          · exact Nat.le_add_right _ _
          · exact Nat.le_add_right _ _
          · exact Nat.le_refl _
          · exact Nat.le_add_right _ _
          · exact Nat.le_add_right _ _
        exact I1.fpOk hle (I1.hok.fresh hle)
section
variable {K : Fg} {dk : Dk} {F : Fz} {H : Hp}
def zip3D : List D → List D → List D → List D
  | x :: xs, y :: ys, u :: us => .tup [x, y, u] :: zip3D xs ys us
  | _, _, _ => []
theorem zip3D_get : ∀ {xs ys us : List D} {i : Nat} {d : D}, (zip3D xs ys us)[i]? = some d → ∃ x y u, xs[i]? = some x ∧ ys[i]? = some y ∧ us[i]? = some u ∧ d = .tup [x, y, u]
  | x :: xs, y :: ys, u :: us, 0, d, h => by cases h; exact ⟨x, y, u, rfl, rfl, rfl, rfl⟩
  | x :: xs, y :: ys, u :: us, i + 1, d, h => by
    obtain ⟨a, b, c, h1, h2, h3, h4⟩ := zip3D_get (xs := xs) (ys := ys) (us := us) (i := i) (by simpa [zip3D] using h)
    exact ⟨a, b, c, by simpa using h1, by simpa using h2, by simpa using h3, h4⟩
  | [], _, _, _, _, h => by simp [zip3D] at h
  | _ :: _, [], _, _, _, h => by simp [zip3D] at h
  | _ :: _, _ :: _, [], _, _, h => by simp [zip3D] at h
theorem zip3D_end : ∀ {xs ys us : List D} {i : Nat}, (zip3D xs ys us).length ≤ i → xs.length ≤ i ∨ ys.length ≤ i ∨ us.length ≤ i
  | x :: xs, y :: ys, u :: us, 0, h => by simp [zip3D] at h
  | x :: xs, y :: ys, u :: us, i + 1, h => by
    have := zip3D_end (xs := xs) (ys := ys) (us := us) (i := i) (by simpa [zip3D] using h)
    simpa using this
  | [], _, _, _, _ => .inl (Nat.zero_le _)
  | _ :: _, [], _, _, _ => .inr (.inl (Nat.zero_le _))
  | _ :: _, _ :: _, [], _, _ => .inr (.inr (Nat.zero_le _))
theorem stdy_zip3 {a b c : Addr} {vs us ws : List V} {ds es gs : List D} (h1 : SqT K F a vs) (r1 : Rps K dk F vs ds) (h2 : SqT K F b us) (r2 : Rps K dk F us es) (h3 : SqT K F c ws) (r3 : Rps K dk F ws gs) :
    Stdy K dk F (It3 K a b c vs.length us.length ws.length) (zip3D ds es gs) := fun F1 H1 st le w i => by
  have k1 : SqT K H1 a vs := w.sub.sqT (le.sqT h1)
  have k2 : SqT K H1 b us := w.sub.sqT (le.sqT h2)
  have k3 : SqT K H1 c ws := w.sub.sqT (le.sqT h3)
  refine ⟨fun d hd => ?_, fun hl => ?_⟩
  · obtain ⟨x, y, u, e1, e2, e3, rfl⟩ := zip3D_get hd
    obtain ⟨vx, a1, a2⟩ := r1.get e1
    obtain ⟨vy, b1, b2⟩ := r2.get e2
    obtain ⟨vu, c1, c2⟩ := r3.get e3
    refine ⟨⟨_, _, _, vx, vy, vu, k1, k2, k3, ⟨rfl, rfl, rfl⟩, a1, b1, c1⟩, fun v H2 hy => ?_⟩
    obtain ⟨T, x', y', u', rfl, hT, rfl, f1, f2, f3⟩ := hy
    have ex := f1 _ k1
    have ey := f2 _ k2
    have eu := f3 _ k3
    rw [a1] at ex; rw [b1] at ey; rw [c1] at eu
    cases ex; cases ey; cases eu
    have px : Px F1 H1 (F1.up T (.tup [vx, vy, vu])) (upd H1 T (.tup [vx, vy, vu])) := Px.new w.sub hT
    refine ⟨_, px, .tup (SqT.of Fz.up_same) ?_⟩
    exact .cons ((a2.mono le).mono px.f) (.cons ((b2.mono le).mono px.f) (.cons ((c2.mono le).mono px.f) .nil))
  · refine ⟨_, _, _, k1, k2, k3, ⟨rfl, rfl, rfl⟩, ?_⟩
    rw [r1.length, r2.length, r3.length]
    exact zip3D_end hl
def zip3I (f f' f2 : ME) : MI := fun env st => (f env st).bind fun p => (f' env p.2).bind fun q => (f2 env q.2).bind fun r => match p.1, q.1, r.1 with
  | .tup xs, .tup ys, .tup us => some (zip3D xs ys us, r.2)
  | _, _, _ => none
theorem ii_zip3 {te te' te2 : TE} {f f' f2 : ME} (h : Im K te f) (h' : Im K te' f') (h2 : Im K te2 f2) : ImI K (iZip3 K (tCons te (tCons te' (tCons te2 tNil)))) (zip3I f f' f2) := fun dk H0 F0 F σ H env st ds st' g e R q => by
  obtain ⟨⟨x, s1⟩, e1, e⟩ := bnd e
  obtain ⟨⟨y, s2⟩, e2, e⟩ := bnd e
  obtain ⟨⟨u, s3⟩, e3, e⟩ := bnd e
  refine h dk H0 F0 F σ H env st x s1 g e1 _ fun v F1 H1 x1 g1 r1 => ?_
  refine h' dk H0 F0 F1 σ H1 env s1 y s2 g1 e2 _ fun v2 F2 H2 x2 g2 r2 => ?_
  refine h2 dk H0 F0 F2 σ H2 env s2 u s3 g2 e3 _ fun v3 F3 H3 x3 g3 r3 => ?_
  show ∃ a b c xs ys zs, _
  dsimp only at e
  split at e
  · rename_i xs ys us
    cases e
    have r1' := (r1.mono x2.f).mono x3.f
    have r2' := r2.mono x3.f
    cases r1' with
    | tup a1 a2 =>
      cases r2' with
      | tup b1 b2 =>
        cases r3 with
        | tup c1 c2 => exact ⟨_, _, _, _, _, _, rfl, g3.wd.sub.sqT a1, g3.wd.sub.sqT b1, g3.wd.sub.sqT c1, q _ F3 H3 ((x1.trans x2).trans x3) g3 (stdy_zip3 a1 a2 b1 b2 c1 c2)⟩
  · cases e
end
end MD

set_option Elab.async false
set_option linter.all false
set_option maxRecDepth 100000
set_option maxHeartbeats 2000000
namespace MD
open PySem PySem.Spec PyProof.Rows L2
variable {ww : WW}
/-! ### max of a list of ints, with default= -/
theorem maxOf_spec : ∀ (ys : List Int) (y : Int), PySem.W.maxOf y ys ∈ y :: ys ∧ ∀ z ∈ y :: ys, z ≤ PySem.W.maxOf y ys := by
  intro ys
  unfold PySem.W.maxOf
  induction ys with
  | nil => intro y; simp
  | cons a r ih =>
    intro y
    rw [List.foldl_cons]
    by_cases h : PySem.W.DatumOrd.lt y a = true
    · have hlt : y < a := by simpa [PySem.W.DatumOrd.lt] using h
      rw [if_pos h]
      obtain ⟨h1, h2⟩ := ih a
      refine ⟨List.mem_cons_of_mem _ h1, fun z hz => ?_⟩
      rcases List.mem_cons.mp hz with e | e
      · have := h2 a (List.mem_cons_self ..); omega
      · exact h2 z e
    · have hlt : ¬ y < a := by simpa [PySem.W.DatumOrd.lt] using h
      rw [if_neg h]
      obtain ⟨h1, h2⟩ := ih y
      refine ⟨?_, fun z hz => ?_⟩
      · rcases List.mem_cons.mp h1 with e | e
        · rw [e]; exact List.mem_cons_self ..
        · exact List.mem_cons_of_mem _ (List.mem_cons_of_mem _ e)
      · rcases List.mem_cons.mp hz with e | e
        · exact h2 z (by rw [e]; exact List.mem_cons_self ..)
        · rcases List.mem_cons.mp e with e | e
          · have := h2 y (List.mem_cons_self ..); omega
          · exact h2 z (List.mem_cons_of_mem _ e)
def rMaxD (K : Fg) : List V → List V → Hp → VK → Prop := fun vs zs H Q => ∃ (a : Addr) (ns : List Int) (d : V), vs = [.ref a] ∧ zs = [d] ∧ SqL K H a (ns.map V.int) ∧ (ns = [] → Q d H) ∧ ∀ m, m ∈ ns → (∀ y, y ∈ ns → y ≤ m) → Q (.int m) H
theorem holdAll_ints {h : Heap} : ∀ {us : List Value} {ns : List Int}, Vals (ns.map V.int) us → PySem.W.HoldAll h us ns
  | [], [], _ => ⟨[], .nil⟩
  | u :: us, n :: ns, r => by
    cases r with
    | cons a b =>
      obtain ⟨as, q⟩ := holdAll_ints b
      obtain ⟨t, rfl⟩ := a
      exact ⟨_, .cons (.int n t) q⟩
  | [], _ :: _, r => by cases r
  | _ :: _, [], r => by cases r
theorem cr_maxD {X : Cx} (hc : X.calm = true) (hu : X.A.units + 64 < cLine) : CallRK X (.builtin "max") ["default"] (rMaxD X.K) := by
  intro pins s σ H vs zs us ws Q I r r2 h
  obtain ⟨a, ns, d, rfl, rfl, hs, q1, q2⟩ := h
  obtain ⟨its, rv, hl, _⟩ := I.list hs
  rw [Vals.ref1 r]
  cases r2 with
  | cons rd r2 =>
    cases r2
    refine PySem.W.max_list_datum_default (α := Int) (I.ok.hd hc) hl.isList (holdAll_ints rv) (by show X.A.units + 1 + 0 < cLine; omega) (fun e h' tk hk => ?_) fun y ys i v h' tk e hi hh hk => ?_
    · exact ⟨d, H, I.kept hk, rd, q1 e⟩
    · obtain ⟨m1, m2⟩ := maxOf_spec ys y
      subst e
      obtain ⟨as, hr⟩ := hh
      have : ∃ t, v = .int (PySem.W.maxOf y ys) t := by
        cases hr
        exact ⟨_, rfl⟩
      obtain ⟨t, rfl⟩ := this
      exact ⟨.int _, H, I.kept hk, ⟨_, rfl⟩, q2 _ m1 m2⟩
section
variable {K : Fg}
/-- max(f, default=g) -/
def maxDM (f g : ME) : ME := fun env st => (f env st).bind fun p => (g env p.2).bind fun q => match dr q.2 p.1 with
  | .lst [] => some (q.1, q.2)
  | .lst (x :: xs) => (intsOf (x :: xs)).map fun ns => (.int (topI ns), q.2)
  | _ => none
theorem im_maxD {te tg : TE} {f g : ME} (hf : ImW K te f) (hg : Im K tg g) : Im K (tCKw (rMaxD K) (tCons te tNil) (tCons tg tNil)) (maxDM f g) := fun dk H0 F0 F σ H env st d st' gd e Q q => by
  obtain ⟨⟨x, s1⟩, e1, e⟩ := bnd e
  obtain ⟨⟨y, s2⟩, e2, e⟩ := bnd e
  refine hf dk H0 F0 F σ H env st x s1 gd e1 _ fun v F1 H1 x1 g1 r1 => ?_
  refine hg dk H0 F0 F1 σ H1 env s1 y s2 g1 e2 _ fun u F2 H2 x2 g2 r2 => ?_
  have r1' := (r1.ext x2).dr g2.wd
  dsimp only at e
  generalize dr s2 x = z at e r1'
  split at e
  · cases e
    obtain ⟨p, vs, rfl, hl, r⟩ := r1'.l g2.wd.sub
    cases r
    exact ⟨p, [], u, rfl, rfl, SqL.of hl, fun _ => q u F2 H2 (x1.trans x2) g2 r2, fun m hm => by cases hm⟩
  · rename_i a as
    obtain ⟨ns, h1, e⟩ := mpd e
    cases e
    obtain ⟨p, vs, rfl, hl, r⟩ := r1'.l g2.wd.sub
    cases r.ints h1
    have hn := intsOf_len h1
    simp at hn
    have hne : ns ≠ [] := fun z => by rw [z] at hn; cases hn
    obtain ⟨t1, t2⟩ := topI_spec ns hne
    refine ⟨p, ns, u, rfl, rfl, SqL.of hl, fun z => absurd z hne, fun m hm hy => ?_⟩
    have em : m = topI ns := by have := t2 m hm; have := hy _ t1; omega
    rw [em]
    exact q _ F2 H2 (x1.trans x2) g2 (.int _)
  · cases e
end
end MD

set_option Elab.async false
set_option linter.all false
set_option maxRecDepth 100000
set_option maxHeartbeats 2000000
namespace MD
open PySem PySem.Spec PyProof.Rows L2
variable {ww : WW}
/-! ### a method that is handed a lambda, as its caller sees it -/
def CalL (ww : WW) (P : Program) (w : World) (K : Fg) (mg : Str → Option Value) (base : Heap) (k : Nat) (c m : Str) (Ng : List Str) (qg : Str) (stg : Stmt) (a : Str) (bb : (MA → ME) → MS) : Prop :=
  ∃ C : Addr, clsOf K c = some C ∧ Cls K C ∧ ∃ g fd, Meth K C m g ∧ Fun K m qg stg g fd ∧ Binds K fd ["self", a] [] ∧ FnScope Ng ["self", a] (defScope stg) ∧ (3 ≤ Ng.length ∧ Ng[1]? = some a ∧ Vis (defScope stg) a) ∧ GivL ww P w K mg base k Ng qg stg g a bb
def lamPB (sc scope : Scope) (caps pars : List Str) : Bool :=
  decide (scope.kind = .function) && !scope.isCoroutine && !scope.isGenerator && decide (pars.Nodup) && (scope.names.all fun y => !decide (y.2 = .cell)) && (pars.all fun x => decide (scope.names.lookup x = some .local)) && (caps.all fun x => decide (scope.names.lookup x = some .free)) &&
    scope.names.all fun y => (!decide (y.2 = .free) || decide (sc.names.lookup y.1 = some .cell) || decide (sc.names.lookup y.1 = some .free))
theorem lamP_by {sc scope : Scope} {caps pars : List Str} (h : lamPB sc scope caps pars = true) : LamP sc scope caps pars := by
  unfold lamPB at h
  simp only [Bool.and_eq_true, Bool.or_eq_true, Bool.not_eq_true', decide_eq_true_eq, decide_eq_false_iff_not, List.all_eq_true] at h
  obtain ⟨⟨⟨⟨⟨⟨⟨h1, h2⟩, h3⟩, h4⟩, h5⟩, h6⟩, h7⟩, h8⟩ := h
  refine ⟨h1, h2, h3, h4, h5, h6, h7, fun y hy e => ?_⟩
  rcases h8 y hy with (z | z) | z
  · exact absurd e z
  · exact .inl z
  · exact .inr z
theorem bndL1 {params : Arguments} {body : Expr} {scope : Scope} {x q : Str} {cl : List (Str × Addr)} {pm cv ctv : Value} {us : List Value} (h : us.length = [x].length) (k : ∀ a, bindArgs (PySem.W.kla_fn "<lambda>" q params body scope cl pm cv ctv) ⟨[a], []⟩ = pure ([x].zip [a])) :
    bindArgs (PySem.W.kla_fn "<lambda>" q params body scope cl pm cv ctv) ⟨us, []⟩ = pure ([x].zip us) :=
  len1 (P := fun us => bindArgs (PySem.W.kla_fn "<lambda>" q params body scope cl pm cv ctv) ⟨us, []⟩ = pure ([x].zip us)) h k
theorem pe_lamMC {X : Cx} {kx kb kl : Nat} {cc P : Addr} {c m a q qg : Str} {stg : Stmt} {Ng : List Str} {bb : (MA → ME) → MS} {o : Expr} {to : TE} {fo b : ME} {params : Arguments} {body : Expr} {scope : Scope} {caps pars : List Str} {ks : List Nat} {ti : Nat} {pl : Sem Bool} {lpos apos pos : Pos}
    (he : PE X o to) (ho : Im X.K to fo) (hc : CalL ww X.prog X.w X.K X.mg X.base kb c m Ng qg stg a bb) (TB : LamX.TabB X.base X.mg cc P) (hcode : X.env.code = .ref cc) (hq : q = X.env.qual ++ "<lambda>") (htb : ww.tb q = some P) (L : lamPB X.env.scope scope caps pars = true)
    (hr : Room kx X.A) (gd : X.A.guards = some []) (hkb : kb + 1 ≤ kx) (hkl : kl + 2 ≤ kx) (hdef : defaultsOf params X.env = ([], []))
    (hbind : ∀ (q : Str) (cl : List (Str × Addr)) (pm cv ctv : Value) (us : List Value), us.length = pars.length → bindArgs (PySem.W.kla_fn "<lambda>" q params body scope cl pm cv ctv) ⟨us, []⟩ = pure (pars.zip us))
    (hks : ks.map (X.N[·]?) = caps.map some)
    (hbody : ∀ (cv : List V) (cd : Option (Addr × Str)), ∃ tb, (∀ (f c' : Addr) (A : Around) (outer : List Env) (s : Shared) (H : Hp), Room kl (A.deeper (LamX.lamEnv X scope s.heap.objs.size f c')) → (A.deeper (LamX.lamEnv X scope s.heap.objs.size f c')).guards = some [] → PE (lcx X A outer s H scope f c' (caps ++ pars)) body tb) ∧ @Im X.K (ww.lam cv cd) tb b)
    (hda : (a == ("__debug__" : Str)) = false := by decide) (hca : (a == ("__classdict__" : Str)) = false := by decide)
    (hst : starEach [.Lambda params body scope lpos] X.env = (false, eval (.Lambda params body scope lpos) X.env) :: starEach [] X.env := by rfl) (hpl : (backTo pos (starEach [] X.env)).any (·.1) = false := by rfl)
    (ht : eval (.Call (.Attribute o m apos) [.Lambda params body scope lpos] [] pos) X.env = (do
      let ov ← eval o X.env
      standAt apos.atName
      let (f, first) ← holding [ov] (getMethod ov m pl)
      callWith pos f first (backTo pos (starEach [.Lambda params body scope lpos] X.env)) (backToKw pos (keywordEach [] X.env))) := by rfl) :
    PE X (.Call (.Attribute o m apos) [.Lambda params body scope lpos] [] pos) (teOf X.K (lcM c m ti q ks (runL Ng.length (bb (cloM 1 (Ng.length - 1) pars.length b))) fo)) := by
  obtain ⟨C, h1, h2, g, fd, h3, h4, h5, h6, ⟨h7, h8, h9⟩, h10⟩ := hc
  obtain ⟨k, rfl⟩ : ∃ k, kx = k + 2 := ⟨kx - 2, by omega⟩
  exact pe_lamM (k := k) he ho h1 h2 h3 h4 h6 h7 h8 h9 h5 (fun cv cd cdv A outer s H E tl lm hr gd hP hI => h10 cv cd cdv A outer s H E tl lm (hr.mono (by omega)) gd hP hI) hr gd (lamP_by L) TB hcode hq htb hdef hbind hks
    (fun cv cd => by
      obtain ⟨tb, e1, e2⟩ := hbody cv cd
      exact ⟨tb, fun f c' A outer s H hr gd => e1 f c' A outer s H (hr.mono (by omega)) gd, e2⟩) hda hca hst hpl ht
/-! ### a def whose code object is known -/
structure FunC (K : Fg) (x qual : Str) (st : Stmt) (f : Addr) (fd : FuncData) (cc : Addr) : Prop where
  ex : ∃ (oc : Value) (od : Option Addr) (kV doc pm : Value) (an : Option Addr) (ct : Value) (osl : Array (Option Value)),
    fd = PySem.W.fnOf x qual (defArgs st) (defBody st) (defScope st) .none kV doc pm an (.ref cc) ct ∧ K.lookup f = some ⟨oc, od, .func fd, osl⟩ ∧ PySem.W.codeIn K (.ref cc) qual = true
  kp : PySem.W.keepIn K (.ref f) = true
theorem funC_mk {K : Fg} {x qual : Str} {st : Stmt} {f cc : Addr} {oc : Value} {od an : Option Addr} {osl : Array (Option Value)} {kV doc pm ct : Value} (l : K.lookup f = some ⟨oc, od, .func (PySem.W.fnOf x qual (defArgs st) (defBody st) (defScope st) .none kV doc pm an (.ref cc) ct), osl⟩)
    (c : PySem.W.codeIn K (.ref cc) qual = true) (k : PySem.W.keepIn K (.ref f) = true) : FunC K x qual st f (PySem.W.fnOf x qual (defArgs st) (defBody st) (defScope st) .none kV doc pm an (.ref cc) ct) cc :=
  ⟨⟨oc, od, kV, doc, pm, an, ct, osl, rfl, l, c⟩, k⟩
theorem fnG_ofC {P : Program} {w : World} {K : Fg} {mg : Str → Option Value} {base : Heap} {x qual : Str} {st : Stmt} {f cc : Addr} {fd : FuncData} {N ps : List Str} {k : Nat} {sp : Sp} (Fn : FunC K x qual st f fd cc) (S : FnScope N ps (defScope st))
    (len : ∀ vs H Q E, sp vs H Q E → vs.length = ps.length)
    (hbody : ∀ (A : Around) (outer : List Env) (s : Shared) (H : Hp) (vs : List V) (Q : VK) (E : XK), Room k (A.deeper (envOfC qual (defScope st) s.heap.objs.size f (.ref cc))) → (A.deeper (envOfC qual (defScope st) s.heap.objs.size f (.ref cc))).guards = some [] → sp vs H Q E →
      ∃ t, PSs (cxOf CX0 P w K mg base N qual (defScope st) f (.ref cc) A outer s H E).nox (defBody st) t ∧ t { nx := fun _ H' => Q .non H', rt := Q } (L2.start N vs) H) : FnG P w K mg base (k + 1) f fd ps sp := by
  refine ⟨len, fun A outer s H args us vs Q E hr gd e0 hb r hsp => ?_⟩
  obtain ⟨oc, od, kV, doc, pm, an, ct, osl, rfl, lk, hcd⟩ := Fn.ex
  exact LamX.run_ofS (CX := CX0) (N := N) lk hcd S hr e0 hb r (len _ _ _ _ hsp) fun hr' => by
    obtain ⟨t, ht, hq⟩ := hbody A outer s H vs Q E hr' (guards_deeper _ gd) hsp
    exact ⟨t, ht.nox, hq⟩
theorem fnDC {P : Program} {w : World} {K : Fg} {mg : Str → Option Value} {base : Heap} {x qual : Str} {st : Stmt} {f cc : Addr} {fd : FuncData} {N ps : List Str} {k : Nat} {b : MS} (Fn : FunC K x qual st f fd cc) (S : FnScope N ps (defScope st)) (hN : ps.length ≤ N.length)
    (hbody : ∀ (A : Around) (outer : List Env) (s : Shared) (H : Hp) (E : XK), Room k (A.deeper (envOfC qual (defScope st) s.heap.objs.size f (.ref cc))) → (A.deeper (envOfC qual (defScope st) s.heap.objs.size f (.ref cc))).guards = some [] →
      ∃ t, PSs (cxOf CX0 P w K mg base N qual (defScope st) f (.ref cc) A outer s H E).nox (defBody st) t ∧ ImS K t b) : FnG P w K mg base (k + 1) f fd ps (spD K ps.length (runM N.length b)) := by
  refine fnG_ofC Fn S (fun vs H Q E h => h.1) fun A outer s H vs Q E hr gd h => ?_
  obtain ⟨hlv, dk, F, ds, s0, d, s1, wd, r, e, q⟩ := h
  obtain ⟨t, h1, h2⟩ := hbody A outer s H E hr gd
  refine ⟨t, h1, ?_⟩
  obtain ⟨⟨fl, s2⟩, e1, e⟩ := bnd e
  refine h2 dk H F F (L2.start N vs) H _ s0 fl s2 (good_start wd r (by rw [hlv]; exact hN)) e1 _ ?_
  cases fl with
  | rt d' => cases e; exact fun v F' H' x w r => q v F' H' x w r
  | nx en => cases e; exact fun F' σ' H' le g => q .non F' H' g.ext g.wd .non
  | bk en => cases e
  | ct en => cases e
/-! ### the law, tables of code objects in the store -/
section
variable {K : Fg} {P : Program} {w : World} {mg : Str → Option Value} {base : Heap}
def spLawT (K : Fg) (ts : List (Addr × Str)) : Sp := fun vs H Q _ => ∃ (a : Addr) (ns : List Int), vs = [.ref a] ∧ SqL K H a (ns.map V.int) ∧ ns.length ≤ 63 ∧ (∀ p ∈ ts, H p.1 = some (.tbl #[])) ∧ ∀ H', Q (.bl true) H'
theorem wd_tabs {dk : Dk} {H : Hp} {cs : List Int} {n : Int} {ts : List (Addr × Str)} (w : Wd K dk ⟨fun _ => none, []⟩ H ⟨cs, n, []⟩) (ht : ∀ p ∈ ts, H p.1 = some (.tbl #[])) (htb : ∀ p ∈ ts, ww.tb p.2 = some p.1) (hnd : (ts.map (·.1)).Nodup) :
    Wd K dk ⟨fun _ => none, ts.map (·.1)⟩ H ⟨cs, n, ts.map fun p => .tab p.2⟩ := by
  have off : ∀ a xs, H a = some (.lst xs) → a ∉ ts.map (·.1) := fun a xs h z => by
    obtain ⟨p, hp, e⟩ := List.mem_map.mp z
    rw [← e, ht p hp] at h
    cases h
  refine ⟨fun a o e => (nomatch (show (none : Option HO) = some o from e)), w.d1, w.d2, ⟨rfl, off _ _ w.d1⟩, ⟨rfl, off _ _ w.d2⟩, w.ne, by simp, hnd, fun i a o h1 h2 => ⟨rfl, ?_⟩⟩
  have h1' : (ts.map (·.1))[i]? = some a := h1
  have h2' : (ts.map fun p => Ob.tab p.2)[i]? = some o := h2
  rw [List.getElem?_map] at h1' h2'
  obtain ⟨p, hp, rfl⟩ := mpd h1'
  rw [hp] at h2'
  cases h2'
  have hm := List.mem_of_getElem? hp
  exact .tab (htb p hm) (ht p hm) True.intro fun pos cv hc => by
    have z : codeAmong pos [] = some cv := hc
    simp [codeAmong] at z
theorem fn_lawT {ts : List (Addr × Str)} {x qual : Str} {st : Stmt} {f : Addr} {fd : FuncData} {N ps : List Str} {k : Nat} {b : MS} (htb : ∀ p ∈ ts, ww.tb p.2 = some p.1) (hnd : (ts.map (·.1)).Nodup) (Fn : Fun K x qual st f fd) (S : FnScope N ps (defScope st)) (hN : 2 ≤ N.length) (hp : ps.length = 1)
    (hb : ∀ ns : List Int, ns.length ≤ 63 → ∃ s1, b (env0 N.length) ⟨ns.map absI, 0, ts.map fun p => .tab p.2⟩ = some (.rt (.bl true), s1))
    (hbody : ∀ (cdv : Value) (A : Around) (outer : List Env) (s : Shared) (H : Hp) (E : XK), Room k (A.deeper (envOfC qual (defScope st) s.heap.objs.size f cdv)) → (A.deeper (envOfC qual (defScope st) s.heap.objs.size f cdv)).guards = some [] →
      ∃ t, PSs (cxOf CX0 P w K mg base N qual (defScope st) f cdv A outer s H E).nox (defBody st) (tSeq (tAsg (tCall (spDeck K) [] E0 (tCons (tVar 0) tNil)) (gName 1)) t) ∧ ImS K t b) : FnG P w K mg base (k + 1) f fd ps (spLawT K ts) := by
  refine fnG_of Fn S (fun vs H Q E h => ?_) fun cdv A outer s H vs Q E hr gd h => ?_
  · obtain ⟨a, ns, rfl, _⟩ := h
    rw [hp]; rfl
  · obtain ⟨a, ns, rfl, hs, hl, htt, q⟩ := h
    obtain ⟨t, h1, h2⟩ := hbody cdv A outer s H E hr gd
    refine ⟨_, h1, ?_⟩
    obtain ⟨m, hm⟩ : ∃ m, N.length = m + 2 := ⟨N.length - 2, by omega⟩
    have es : L2.start N [V.ref a] = some (.ref a) :: none :: List.replicate m none := by
      unfold L2.start
      rw [hm]
      rfl
    rw [es]
    refine ⟨_, rfl, a, ns, rfl, hs, hl, fun dk H' le wd => ?_⟩
    obtain ⟨s1, hr1⟩ := hb ns hl
    have wd2 := wd_tabs (ts := ts) wd (fun p hp => le _ _ (htt p hp)) htb hnd
    have g : Good K dk H' ⟨fun _ => none, ts.map (·.1)⟩ ⟨fun _ => none, ts.map (·.1)⟩ (some (.ref a) :: some (.ref dk.1) :: List.replicate m none) H' (env0 N.length) ⟨ns.map absI, 0, ts.map fun p => .tab p.2⟩ := by
      refine ⟨wd2, Ext.refl _ _, by unfold env0; rw [hm]; simp, fun i s e => ?_, fun i j ds es p hne e1 e2 e3 => ?_⟩
      · unfold env0 at e
        match i with
        | 0 => cases e; trivial
        | 1 => cases e; exact ⟨_, rfl, .deck⟩
        | i + 2 =>
          have e' : (List.replicate (N.length - 2) Sl.un)[i]? = some s := e
          rw [List.getElem?_replicate] at e'
          split at e'
          · cases e'; trivial
          · cases e'
      · exfalso
        unfold env0 at e1
        match i with
        | 0 => cases e1
        | 1 => cases e1
        | i + 2 =>
          have e' : (List.replicate (N.length - 2) Sl.un)[i]? = some (.own ds) := e1
          rw [List.getElem?_replicate] at e'
          split at e' <;> cases e'
    refine h2 dk H' _ _ _ H' _ _ _ s1 g hr1 _ ?_
    intro v F' H2 _ _ r
    cases r
    exact q H2
end
/-- code object, its table, the lambda's name -/
abbrev Tb := Addr × Addr × Str
def tbObj : Obj := { cls := .none, data := .fields #[] }
/-- the table of a code object -/
def tabOf (K : Fg) (c : Addr) : Option Addr := match K.lookup c with
  | some ⟨_, _, .fields vs, _⟩ => (match (vs[11]? : Option Value) with
    | some (.ref P) => some P
    | _ => none)
  | _ => none
/-- the law's own call, tables of code objects tracked besides the script -/
theorem law_coreT {P : Program} {w : World} {K : Fg} {mg mb : Str → Option Value} {k : Nat} {fa a : Addr} {fd : FuncData} {x : Str} {sp : Sp} {s1 : Shared} {vs : List Value} {cs : List Tb} (KX : K.In s1.heap) (hns : s1.heap.Ns mainGlobals mg) (hb : s1.heap.Ns builtinsNs mb)
    (hbb : ∀ y : Str, y ≠ "__name__" → mb y = bootBuiltins y) (hlim : s1.heap.NoLimit) (hg : s1.gens = #[])
    (hT : ∀ p ∈ cs, s1.heap.get? p.2.1 = some tbObj) (nT : ∀ p ∈ cs, K.lookup p.2.1 = none) (cT : ∀ p ∈ cs, PySem.W.CodeHd s1.heap p.1 p.2.1)
    (hbm : ∃ (bm : Addr) (ob : Obj), mg "__builtins__" = some (.ref bm) ∧ bm ≠ builtinsNs ∧ s1.heap.get? bm = some ob ∧ ob.cls = .type "module" ∧ ob.dict = some builtinsNs ∧ ob.data = .plain)
    (ha : s1.heap.get? a = some { cls := .type "list", data := .seq vs.toArray }) (hr : Room k callerA)
    (Fn : ∀ base : Heap, K.In base → base.Ns mainGlobals mg → (∀ p ∈ cs, LamX.TabB base mg p.1 p.2.1) → FnG P w K mg base k fa fd [x] sp) (hbind : ∀ (s : Shared) (u : Value), BindsTo s fd ⟨[u], []⟩ [(x, u)])
    (H : Hp) (hO : ∀ b, H b = none ∨ (∃ p ∈ cs, b = p.2.1) ∨ ∃ ob xs, H b = some (.frz ob (.lst xs))) (hTH : ∀ p ∈ cs, H p.2.1 = some (.tbl #[])) (hok : HOk P w H s1.heap) (hA : ∀ b, H b ≠ none → b = a ∨ ∃ p ∈ cs, b = p.2.1) (hK : H a ≠ none → K.lookup a = none) (hsp : sp [.ref a] H (fun v _ => v = .bl true) E0) :
    codeAny (model P w) callerA (.call (.ref fa) ⟨[.ref a], []⟩) (fun r s' => r = .ok (.ret (.bool true)) ∧ OldK s1.heap s'.heap ∧ s'.os = s1.os ∧ AllBare s'.gens) s1 := by
  -- what is no list and no table is not tracked
  have clear : ∀ {b : Addr} {o : Obj}, s1.heap.get? b = some o → (∀ vs n, o.data ≠ .seq vs n) → o.data ≠ .fields #[] → H b = none := by
    intro b o e n1 n2
    by_cases hz : H b = none
    · exact hz
    · rcases hA b hz with e' | ⟨p, hp, e'⟩
      · subst e'
        rw [ha] at e
        cases e
        exact absurd rfl (n1 _ _)
      · subst e'
        rw [hT p hp] at e
        cases e
        exact absurd rfl n2
  have low : ∀ {b : Addr} {m : Str → Option Value}, s1.heap.Ns b m → (hidT s1.heap H).Ns b m := by
    intro b m hm
    obtain ⟨o, es, ep, e, d, r⟩ := hm
    exact ⟨o, es, ep, hidT_get e (clear e (by rw [d]; intro _ _ z; cases z) (by rw [d]; intro z; cases z)), d, r⟩
  have kin : K.In (hidT s1.heap H) := by
    intro b o e
    refine hidT_get (KX b o e) ?_
    by_cases hz : H b = none
    · exact hz
    · rcases hA b hz with e' | ⟨p, hp, e'⟩
      · subst e'
        rw [hK hz] at e
        cases e
      · subst e'
        rw [nT p hp] at e
        cases e
  obtain ⟨mc, l1, l2⟩ := hlim
  have md : Mod K mg (hidT s1.heap H) := ⟨kin, low hns, ⟨mb, low hb, hbb⟩, ⟨mc, low l1, l2⟩⟩
  have en : Env0 P w K mg (hidT s1.heap H) callerA [] s1 H := by
    refine ⟨rfl, md, fun b o e => of_hidT e, Nat.le_of_eq (hidT_size _ _), trivial, fun b z => ?_, hok, .of_eq hg⟩
    exact absurd (show b ∈ ([] : List Addr) from z) (by simp)
  have tb : ∀ p ∈ cs, LamX.TabB (hidT s1.heap H) mg p.1 p.2.1 := by
    intro p hp
    have tp := hT p hp
    have ng : mainGlobals ≠ p.2.1 := by
      intro z
      obtain ⟨o, es, ep, e, d, _⟩ := hns
      rw [z, tp] at e
      cases e
      cases d
    refine ⟨?_, ?_, ng⟩
    · obtain ⟨o, us, fl, tf, gg, tg, nf, tx, tt, r0, r1, r2, r3, r4⟩ := cT p hp
      refine ⟨o, us, fl, tf, gg, tg, nf, tx, tt, hidT_get r0 (clear r0 (by rw [r2]; intro _ _ z; cases z) ?_), r1, r2, r3, r4⟩
      intro z
      rw [r2] at z
      cases z
      simp at r3
    · obtain ⟨bm, ob, c1, c2, c3, c4, c5, c6⟩ := hbm
      have n1 : bm ≠ mainGlobals := by
        intro z
        obtain ⟨o, es, ep, e, d, _⟩ := hns
        rw [z, e] at c3
        cases c3
        rw [d] at c6
        cases c6
      have n2 : bm ≠ p.2.1 := by
        intro z
        rw [z, tp] at c3
        cases c3
        cases c6
      exact ⟨bm, ob, c1, c2, n1, n2, hidT_get c3 (clear c3 (by rw [c6]; intro _ _ z; cases z) (by rw [c6]; intro z; cases z)), c4, c5, c6⟩
  refine codeAny_mono ((Fn _ kin (low hns) tb).run callerA [] s1 H ⟨[.ref a], []⟩ [.ref a] [.ref a] _ _ hr rfl en (hbind s1 (.ref a)) (.cons rfl .nil) hsp) fun r s' h => ?_
  rcases r with er | fl
  · exact False.elim h
  · cases fl with
    | ret u =>
      obtain ⟨v, H', os, bare, un, hok', r', q⟩ := h
      replace q : v = .bl true := q
      rw [q] at r'
      have hu : u = Value.bool true := r'
      rw [hu]
      have more : ∀ p ∈ cs, ∃ ms : Array Value, s'.heap.get? p.2.1 = some { cls := .none, data := .fields ms } := fun p hp => by
        obtain ⟨ms, z⟩ := un.tbls p.2.1 #[] (hTH p hp)
        exact ⟨_, hok' p.2.1 _ z⟩
      have stay : ∀ b o, (∀ p ∈ cs, b ≠ p.2.1) → s1.heap.get? b = some o → s'.heap.get? b = some o := fun b o nb e => by
        by_cases hz : H b = none
        · exact un.keep b o e hz (fun z => absurd (show b ∈ ([] : List Addr) from z) (by simp)) (by simp)
        · rcases hO b with z | ⟨p, hp, z⟩ | ⟨ob, xs, z⟩
          · exact absurd z hz
          · exact absurd z (nb p hp)
          · have k1 := (hok b _ z).1
            have k2 := (hok' b _ (un.frzs b ob _ z)).1
            rw [e] at k1
            rw [k2, k1]
      refine ⟨rfl, ⟨fun b o e => ?_, fun b o e => ?_⟩, os, bare⟩
      · by_cases hb : ∃ p ∈ cs, b = p.2.1
        · obtain ⟨p, hp, rfl⟩ := hb
          obtain ⟨ms, hm⟩ := more p hp
          rw [hT p hp] at e
          cases e
          exact .inr (.inl ⟨((cT p hp).tab (hT p hp)).isCodeTable, rfl, #[], ms, rfl, by rw [Array.empty_append]; exact hm⟩)
        · exact .inl (stay b o (fun p hp z => hb ⟨p, hp, z⟩) e)
      · by_cases hb : ∃ p ∈ cs, b = p.2.1
        · obtain ⟨p, hp, rfl⟩ := hb
          obtain ⟨ms, hm⟩ := more p hp
          exact ⟨_, hm⟩
        · exact ⟨o, stay b o (fun p hp z => hb ⟨p, hp, z⟩) e⟩
    | next => exact False.elim h
    | brk => exact False.elim h
    | cont => exact False.elim h
open Classical in
theorem law_callT {P : Program} {w : World} {K : Fg} {mg mb : Str → Option Value} {k : Nat} {fa a : Addr} {fd : FuncData} {x : Str} {sp : Sp} {s1 : Shared} {vs : List Value} {ns : List Int} {cs : List Tb} (KX : K.In s1.heap) (hns : s1.heap.Ns mainGlobals mg) (hb : s1.heap.Ns builtinsNs mb)
    (hbb : ∀ y : Str, y ≠ "__name__" → mb y = bootBuiltins y) (hlim : s1.heap.NoLimit) (hg : s1.gens = #[])
    (hT : ∀ p ∈ cs, s1.heap.get? p.2.1 = some tbObj) (nT : ∀ p ∈ cs, K.lookup p.2.1 = none) (cT : ∀ p ∈ cs, PySem.W.CodeHd s1.heap p.1 p.2.1)
    (hbm : ∃ (bm : Addr) (ob : Obj), mg "__builtins__" = some (.ref bm) ∧ bm ≠ builtinsNs ∧ s1.heap.get? bm = some ob ∧ ob.cls = .type "module" ∧ ob.dict = some builtinsNs ∧ ob.data = .plain)
    (ha : s1.heap.get? a = some { cls := .type "list", data := .seq vs.toArray }) (hi : IntsAre vs ns) (hl : ns.length ≤ sizeLine) (hr : Room k callerA)
    (Fn : ∀ base : Heap, K.In base → base.Ns mainGlobals mg → (∀ p ∈ cs, LamX.TabB base mg p.1 p.2.1) → FnG P w K mg base k fa fd [x] sp) (hbind : ∀ (s : Shared) (u : Value), BindsTo s fd ⟨[u], []⟩ [(x, u)])
    (hsp : ∀ H : Hp, (∀ p ∈ cs, H p.2.1 = some (.tbl #[])) → SqL K H a (ns.map V.int) → sp [.ref a] H (fun v _ => v = .bl true) E0) :
    codeAny (model P w) callerA (.call (.ref fa) ⟨[.ref a], []⟩) (fun r s' => r = .ok (.ret (.bool true)) ∧ OldK s1.heap s'.heap ∧ s'.os = s1.os ∧ AllBare s'.gens) s1 := by
  have rv := vals_ints hi
  have lenV := hi.length
  let fz : HO := .frz { cls := .type "list", data := .seq vs.toArray } (.lst (ns.map V.int))
  let T : Addr → Prop := fun b => ∃ p ∈ cs, b = p.2.1
  have aT : ¬ T a := by
    rintro ⟨p, hp, z⟩
    rw [z, hT p hp] at ha
    cases ha
  by_cases hk : K.lookup a = none
  · let H : Hp := fun b => if b = a then some fz else if T b then some (.tbl #[]) else none
    have atA : H a = some fz := if_pos rfl
    have atT : ∀ b, T b → H b = some (.tbl #[]) := fun b hb => (if_neg (fun (z : b = a) => aT (by rw [← z]; exact hb))).trans (if_pos hb)
    have off : ∀ b, b ≠ a → ¬ T b → H b = none := fun b z z' => (if_neg z).trans (if_neg z')
    refine law_coreT KX hns hb hbb hlim hg hT nT cT hbm ha hr Fn hbind H (fun b => ?_) (fun p hp => atT _ ⟨p, hp, rfl⟩) (fun b u z => ?_) (fun b z => ?_) (fun _ => hk) (hsp H (fun p hp => atT _ ⟨p, hp, rfl⟩) (.inl (.inr ⟨_, atA⟩)))
    · by_cases e : b = a
      · rw [e]; exact .inr (.inr ⟨_, _, atA⟩)
      · by_cases e' : T b
        · exact .inr (.inl e')
        · exact .inl (off b e e')
    · by_cases e : b = a
      · rw [e, atA] at z
        cases z
        rw [e]
        exact ⟨ha, by rw [List.length_map]; exact hl, vs, _, rv, ha⟩
      · by_cases e' : T b
        · rw [atT b e'] at z
          cases z
          obtain ⟨p, hp, rfl⟩ := e'
          exact hT p hp
        · rw [off b e e'] at z; cases z
    · by_cases e : b = a
      · exact .inl e
      · by_cases e' : T b
        · exact .inr e'
        · exact absurd (off b e e') z
  · obtain ⟨o, ho⟩ : ∃ o, K.lookup a = some o := Option.ne_none_iff_exists'.mp hk
    have e := KX a o ho
    rw [ha] at e
    have eo : o = { cls := .type "list", data := .seq vs.toArray } := (Option.some.inj e).symm
    subst eo
    let H : Hp := fun b => if T b then some (.tbl #[]) else none
    have atT : ∀ b, T b → H b = some (.tbl #[]) := fun b hb => if_pos hb
    have off : ∀ b, ¬ T b → H b = none := fun b z' => if_neg z'
    refine law_coreT KX hns hb hbb hlim hg hT nT cT hbm ha hr Fn hbind H (fun b => ?_) (fun p hp => atT _ ⟨p, hp, rfl⟩) (fun b u z => ?_) (fun b z => ?_) (fun z => absurd (off a aT) z) (hsp H (fun p hp => atT _ ⟨p, hp, rfl⟩) ?_)
    · by_cases e' : T b
      · exact .inr (.inl e')
      · exact .inl (off b e')
    · by_cases e' : T b
      · rw [atT b e'] at z
        cases z
        obtain ⟨p, hp, rfl⟩ := e'
        exact hT p hp
      · rw [off b e'] at z; cases z
    · by_cases e' : T b
      · exact .inr e'
      · exact absurd (off b e') z
    · exact .inr ⟨_, vs.toArray, _, ho, rfl, rfl, rfl, by rw [List.size_toArray, lenV]; exact hl, by simpa using rv⟩
/-- what k_head leaves, from the law's promise, with tables -/
theorem walkT {l : PySem.W.OpenLaw} {n k : Nat} {q : Program} {loose : List Str} {XP : (Str → Option Value) → Heap → Prop} {YP : World → Heap → Prop} {d : DefRec} {K : Params → Fg} {x : Str} (hn : l.most = some n) (hn2 : n ≤ 63) (hdf : d.params.defaults = []) (hr : Room k callerA)
    (hY : ∀ (w : World) (h : Heap), YP w h → (K w.params).In h)
    (Fn : ∀ (w : World) (mg : Str → Option Value) (fa : Addr) (h : Heap), YP w h → (K w.params).In h → h.Ns mainGlobals mg → mg d.name = some (.ref fa) →
      ∃ (fd : FuncData) (cs : List Tb), (∀ p ∈ cs, h.get? p.2.1 = some tbObj) ∧ (∀ p ∈ cs, (K w.params).lookup p.2.1 = none) ∧ (∀ p ∈ cs, PySem.W.CodeHd h p.1 p.2.1) ∧ (∀ (s : Shared) (u : Value), BindsTo s fd ⟨[u], []⟩ [(x, u)]) ∧
        ∀ base : Heap, (K w.params).In base → base.Ns mainGlobals mg → (∀ p ∈ cs, LamX.TabB base mg p.1 p.2.1) → FnG l.prog w (K w.params) mg base k fa fd [x] (spLawT (K w.params) (cs.map fun p => p.2))) :
    PySem.W.WalkO q loose XP YP l.row.toRowW d [] (fun f vs => PySem.call f vs) := by
  refine Att.attach_call hn hdf fun w s₀ s₁ mg mb fa o pm cd doc a vs ns G Y ho hd hcd hmg hobj hints hlen hg => ?_
  have KX := hY w _ Y
  obtain ⟨fd, cs, t1, t2, t3, hb, hF⟩ := Fn w mg fa _ Y KX G.T.g hmg
  have small : ns.length ≤ sizeLine := Nat.le_trans (Nat.le_trans hlen hn2) (by decide)
  exact law_callT KX G.T.g G.T.b G.T.builtins G.T.nolimit hg t1 t2 t3 G.T.bmain hobj hints small hr hF hb fun H hH hS => ⟨a, ns, rfl, hS, Nat.le_trans hlen hn2, fun p hp => by
    obtain ⟨z, hz, e⟩ := List.mem_map.mp hp
    rw [← e]
    exact hH z hz, fun _ => rfl⟩
end MD

set_option Elab.async false
set_option linter.all false
set_option maxRecDepth 100000
set_option maxHeartbeats 2000000
namespace MD
open PySem PySem.Spec PyProof.Rows L2
open ClX (CRead CVal tCVal pe_cval)
variable {ww : WW}
/-! ### exceptions of own classes as values -/
structure ExK (K : Fg) (C : Addr) : Prop where
  bs : ∃ (B nI iI : String) (bmB bm : List Value) (nm q : Str) (N : Addr) (bs : List Value) (sn : List Str) (sub : List Value) (ab : Bool) (col : Option Bool) (dd : Option Addr) (k0 k1 k2 k3 k5 : Option Value),
    ExcBaseFacts B nI iI bmB ∧ (∀ Y : String, bm.contains (.type Y) = bmB.contains (.type Y)) ∧ K.lookup C = some (excClassObj nm q C N bs bm true sn sub ab col dd k0 k1 k2 k3 k5 nI)
  kC : PySem.W.keepIn K (.ref C) = true
theorem exK_of {K : Fg} {C : Addr} (T : OexC K C) : ExK K C := by
  obtain ⟨nm, q, N, bs, bm, sn, sub, ab, col, dd, k0, k1, k2, k3, k5, hC, hbm⟩ := T.cls
  exact ⟨⟨_, _, _, _, bm, nm, q, N, bs, sn, sub, ab, col, dd, k0, k1, k2, k3, k5, PySem.F.excBase_ValueError, fun Y => PySem.HandSPX.refsVE_contains Y bm hbm, hC⟩, T.kC⟩
theorem exK_ofL {K : Fg} {C : Addr} (T : OlxC K C) : ExK K C := by
  obtain ⟨nm, q, N, bs, sn, sub, ab, col, dd, k0, k1, k2, k3, k5, hC⟩ := T.cls
  exact ⟨⟨_, _, _, _, leT, nm, q, N, bs, sn, sub, ab, col, dd, k0, k1, k2, k3, k5, PySem.F.excBase_LookupError, le_ct, hC⟩, T.kC⟩
/-- C(e, ..) as a value, C's own __init__ keeping sp -/
def tMkV (C : Addr) (sp : Sp) (ta : TA) : TE := fun σ H Q => ta σ H fun vs H1 => vs.length ≤ 1000 ∧ ∀ a, H1 a = none → sp (.ref a :: vs) (upd H1 a (exo a C none)) (fun v H2 => v = .non ∧ Q (.ref a) H2) (fun _ _ _ => False)
/-- C() as a value, C without an own __init__ -/
def tMk0 (C : Addr) : TE := fun _ H Q => ∀ a, H a = none → Q (.ref a) (upd H a (ExO (.ref C) a))
section
variable {X : Cx} {e : Expr} {es : List Expr} {te : TE} {ta : TA} {p pos : Pos} {x f : Str} {C : Addr}
theorem pe_mkv {CX : CXT} {fI : Addr} {k : Nat} {fd : FuncData} {ps : List Str} {sp : Sp} (T : ExK X.K C) (iC : PySem.W.findIn X.K (.ref C) "__init__" = some (some (.ref fI))) (tI : PySem.W.typeIn X.K (.ref fI) = some (.type "function"))
    (F1 : FnOk X.prog X.w X.K X.mg X.base CX k fI fd ps sp) (hr : Room (k + 1) X.A) (hb : Binds X.K fd ps []) (hx : Passes CX X (fun _ _ _ => False)) (hg : Gl X x) (hm : X.mg x = some (.ref C)) (ha : PA X (e :: es) ta)
    (hdb : (x == ("__debug__" : Str)) = false := by decide) (he : starEach (e :: es) X.env = (false, eval e X.env) :: starEach es X.env := by rfl) (hpl : (backTo pos (starEach es X.env)).any (·.1) = false := by rfl) :
    PE X (.Call (.Name x p) (e :: es) [] pos) (tMkV C sp ta) := by
  refine ⟨fun pins s σ H Q I h => ?_⟩
  obtain ⟨B, nI, iI, bmB, bm, nm, q, N, bs, sn, sub, ab, col, dd, k0, k1, k2, k3, k5, FB, hct, hC⟩ := T.bs
  refine wpAny_Call_Name_kw (ld_glob I hg hm ?_ hdb)
  refine PySem.W.callWith_K (h₀ := X.base) I.ok.mod.kin T.kC (thn (ha.run pos pins s σ H _ I h) fun us s1 ⟨vs, H1, I1, r1, hz, q1⟩ => ⟨I1.kIn, ?_⟩) he hpl
  obtain ⟨hp, g, dr, tk, os⟩ := s1
  obtain ⟨n, hn0⟩ : ∃ n, n = hp.objs.size + 1 := ⟨_, rfl⟩
  have hsz : hp.objs.size ≤ n := by omega
  have hq := q1 n (I1.hok.fresh hsz)
  obtain ⟨h2, hh2⟩ : ∃ h2, h2 = (hp.push (PySem.W.kdv_tup us)).push (PySem.HandSPX.excO C hp.objs.size) := ⟨_, rfl⟩
  have kk : ∀ b o, hp.get? b = some o → h2.get? b = some o := fun b o e => by rw [hh2]; exact Heap.get?_push_of_some _ (Heap.get?_push_of_some _ e)
  have hget : h2.get? n = some (PySem.HandSPX.excO C hp.objs.size) := by rw [hh2, hn0]; heap_get
  have I2 : L2.Inv X pins σ (upd H1 n (exo n C none)) ⟨h2, g, dr, tk, os⟩ := I1.laid (t' := tk) (a := n) (o := exo n C none) (h' := h2) kk hsz (exo_ok hget)
  have r2 : Vals (V.ref n :: vs) (Value.ref n :: us) := .cons rfl r1
  have hl : (Value.ref n :: us).length = ps.length := r2.length.symm.trans (F1.len _ _ _ _ hq)
  have hus : us.length ≤ sizeLine := by
    rw [← Paired.length r1, sizeLine_eq]
    omega
  have bb := hb ⟨h2, g, dr, tk, os⟩ (Value.ref n :: us) I2.kIn (by rw [List.append_nil]; exact hl)
  rw [List.append_nil] at bb
  subst hn0 hh2
  refine wpAny_call (PySem.HandSPX.call_own FB hct (I1.kIn _ _ hC) (PySem.W.looks_findIn I1.kIn iC) (fun self => PySem.W.bind_fn I1.kIn self tI) hus
    (codeAny_mono (F1.run _ X.stack _ _ ⟨Value.ref (hp.objs.size + 1) :: us, []⟩ (Value.ref (hp.objs.size + 1) :: us) _ _ (fun _ _ _ => False) (hr.make C us []) (I2.env0.make C us []) bb r2 hq) fun r s' hq' => ?_))
  cases r with
  | error er => exact hx pins σ _ _ er s' I2 hq'
  | ok fl =>
    cases fl with
    | ret u =>
      obtain ⟨v, H2, os2, bare2, un2, hok2, rv, ev, q2⟩ := hq'
      subst ev
      obtain ⟨h2, g2, d2, t2, os'⟩ := s'
      exact ⟨rv, .ref (hp.objs.size + 1), H2, I2.call' (ch := []) os2 un2 hok2 bare2 (fun b z => absurd z (by simp)), rfl, q2⟩
    | next => exact False.elim hq'
    | brk => exact False.elim hq'
    | cont => exact False.elim hq'
theorem pe_mk0 {bmB : List Value} {B newId initId : String} (F : ExcBaseFacts B newId initId bmB) (q : PySem.W.excIn X.K C bmB newId = true) (kC : PySem.W.keepIn X.K (.ref C) = true) (hg : Gl X x) (gC : X.mg x = some (.ref C))
    (hdb : (x == ("__debug__" : Str)) = false := by decide) : PE X (.Call (.Name x p) [] [] pos) (tMk0 C) := by
  refine ⟨fun pins s σ H Q I h => ?_⟩
  refine wpAny_Call_Name_kw (ld_glob I hg gC ?_ hdb)
  refine PySem.W.callWith_K0 I.kIn kC ?_
  show wpAny _ _ (call (.ref C) []) _ _ _
  obtain ⟨bm, N, nm, qn, bs, hdct, sn, sub, ab, col, dd, k0, k1, k2, k3, k5, mN, hC, hN, hni, T⟩ := exc_obj I.kIn q
  refine wpAny_call_exc_subT F T hC hN hni (fun h' a hm => ?_) (Nat.zero_le _)
  have hn : H a = none := I.hok.gone hm.new
  obtain ⟨t, ht, _, _⟩ := hm.there
  exact ⟨.ref a, upd H a (ExO (.ref C) a), I.laidN hm.keeps hm.new hn (exO_ok ht ⟨rfl, rfl⟩ rfl rfl rfl (show 4 < 6 by decide)), rfl, h a hn⟩
/-- C(e).f -/
def tXfV (C : Addr) (f : Str) (te : TE) : TE := fun σ H Q => te σ H fun x H1 => ∃ (a dd : Addr) (fs : List (Str × V)) (v : V), x = .ref a ∧ H1 a = some (exo a C (some dd)) ∧ H1 dd = some (exd dd fs) ∧ fs.lookup f = some v ∧ Q v H1
theorem pe_xfv (ga : PySem.W.findIn X.K (.ref C) "__getattribute__" = some (some (.builtin "BaseException.__getattribute__"))) (gg : PySem.W.findIn X.K (.ref C) "__getattr__" = some none) (exC : PySem.W.subIn X.K (.ref C) (.type "BaseException") = some true)
    (hd : PySem.W.hasDictIn X.K C = true) (hno : PySem.W.findIn X.K (.ref C) f = some none) (he : PE X e te) (hb : attributeBase e f X.env (eval e X.env) = eval e X.env := by rfl) : PE X (.Attribute e f pos) (tXfV C f te) := by
  refine ⟨fun pins s σ H Q I h => ?_⟩
  refine attr_of hb (thn (he.run pins s σ H _ I h) fun u s1 hh => ?_)
  obtain ⟨x, H1, I1, rx, a, dd, fs, v, ex, ea, ed, l, q⟩ := hh
  subst ex
  obtain rfl : u = Value.ref a := rx
  obtain ⟨t1, ha⟩ := exo_at I1.hok ea
  obtain ⟨mA, hns, hr⟩ := exd_at I1.hok ed
  obtain ⟨od, ho, hl⟩ := lookIn_ns hns
  obtain ⟨u, hu, ru⟩ := RelO.some_of (v := v) (o := mA f) (by rw [← l]; exact hr f)
  have J : PySem.W.InstAt s1.heap a _ C (some od) := ⟨ha, rfl, rfl, ho⟩
  exact PySem.HandSPX.exc_get I1.kIn J ga gg exC (PySem.W.findObj_own hd hno rfl (by rw [hl, hu])) (handed_of ru) ⟨v, H1, I1.tok _, ru, q⟩
/-- a class by its name -/
def tCl (C : Addr) : TE := fun _ H Q => Q (.ref C) H
theorem pe_clName (hg : Gl X x) (hm : X.mg x = some (.ref C)) (hdb : (x == ("__debug__" : Str)) = false := by decide) : PE X (.Name x pos) (tCl C) :=
  ⟨fun pins s σ H Q I h => ld_glob I hg hm ⟨.ref C, H, I, rfl, h⟩ hdb⟩
end
/-! isinstance -/
def kxB (K : Fg) (C : Addr) : Bool := (PySem.W.clsIn K C).isSome && (decide (PySem.W.findIn K (.ref C) "__getattribute__" = some (some (.builtin "BaseException.__getattribute__"))) && (decide (PySem.W.findIn K (.ref C) "__getattr__" = some none) &&
  (decide (PySem.W.subIn K (.ref C) (.type "BaseException") = some true) && (decide (PySem.W.findIn K (.ref C) "__class__" = some (some (.builtin "object.__class__"))) && (decide (PySem.W.specialIn K (.builtin "object.__class__") "__get__" = some (some (.builtin "getset_descriptor.__get__"))) &&
  (decide (PySem.W.takesIn K (.builtin "object.__class__") = some true) && decide (PySem.W.mroIn K C (.type "object") = some true)))))))
def ExAt (H : Hp) (a C : Addr) : Prop := (∃ d fs, H a = some (exo a C (some d)) ∧ H d = some (exd d fs)) ∨ H a = some (ExO (.ref C) a)
def rIsX (K : Fg) : List V → Hp → VK → Prop := fun xs H Q => ∃ (a C : Addr) (c : V) (cv : Value) (b : Bool), xs = [.ref a, c] ∧ ClsV c cv ∧ ExAt H a C ∧ kxB K C = true ∧ PySem.W.kitOne K (.ref C) cv = some b ∧ Q (.bl b) H
theorem call_isX {X : Cx} : CallR X (.builtin "isinstance") (rIsX X.K) := by
  intro pins s σ H xs us Q I r h
  obtain ⟨a, C, c, cv, b, rfl, hcv, hx, kx, e, q⟩ := h
  obtain ⟨u1, u2, rfl, r1, r2⟩ := vals2 r
  have e2 := hcv.eq r2
  subst e2
  cases (show u1 = Value.ref a from r1)
  unfold kxB at kx
  simp only [Bool.and_eq_true, decide_eq_true_eq] at kx
  obtain ⟨k0, k1, k2, k3, k4, k5, k6, k7⟩ := kx
  rcases hx with ⟨d, fs, ea, ed⟩ | ea
  · obtain ⟨t1, ha⟩ := exo_at I.hok ea
    obtain ⟨mA, hns, hr⟩ := exd_at I.hok ed
    obtain ⟨od, ho, hl⟩ := lookIn_ns hns
    have J : PySem.W.InstAt s.heap a _ C (some od) := ⟨ha, rfl, rfl, ho⟩
    exact PySem.W.kia_one (PySem.W.kitx_exc k0 k1 k2 k3 k4 k5 k6 k7) I.kIn J e (fun z => nomatch z) fun tk => ⟨.bl b, H, I.kept (t' := tk) fun _ _ z => z, rfl, q⟩
  · have hx : ObjOk X.prog X.w H s.heap a (ExO (.ref C) a) := I.hok a _ ea
    obtain ⟨⟨oe, vs, hget, hz, hv, _⟩, _⟩ := hx
    have J : PySem.W.InstAt s.heap a oe C none := by
      obtain ⟨oc, od, oda, osl⟩ := oe
      obtain ⟨h1, h2⟩ := hz
      dsimp only at h1 h2 hv
      subst h1 h2 hv
      exact ⟨hget, rfl, rfl, trivial⟩
    exact PySem.W.kia_one (PySem.W.kitx_exc k0 k1 k2 k3 k4 k5 k6 k7) I.kIn J e (fun z => nomatch z) fun tk => ⟨.bl b, H, I.kept (t' := tk) fun _ _ z => z, rfl, q⟩
/-! ### mirrors -/
section
variable {K : Fg}
def mkxM (c : Str) (a : ME) : ME := fun env st => (a env st).bind fun p => some (.ref p.2.ob.length, p.2.ad (.exc c))
def mk0M (c : Str) : ME := fun env st => some (.ref st.ob.length, st.ad (.exc c))
/-- C(e).f -/
def mkfM (c f : Str) (a : ME) : ME := a
theorem upd_mkx {H1 : Hp} {p dx : Addr} {o1 o2 u : HO} : upd (upd (upd H1 p o1) dx u) p o2 = upd (upd H1 dx u) p o2 := by
  funext b
  by_cases hb : b = p
  · rw [hb, upd_same, upd_same]
  · rw [upd_ne hb, upd_ne hb]
    by_cases hd : b = dx
    · rw [hd, upd_same, upd_same]
    · rw [upd_ne hd, upd_ne hd, upd_ne hb]
theorem im_mkx {c f : Str} {C : Addr} {te : TE} {a : ME} (hC : clsOf K c = some C) (ha : Im K te a) : Im K (tMkV C (spEI C f) (tCons te tNil)) (mkxM c a) := fun dk H0 F0 F σ H env st d st' g e Q q => by
  obtain ⟨⟨x, s1⟩, e1, e⟩ := bnd e
  cases e
  refine ha dk H0 F0 F σ H env st x s1 g e1 _ fun v F1 H1 x1 g1 r1 => ?_
  refine ⟨by simp, fun p hp => ⟨p, v, rfl, upd_same, fun dx hdx hn => ⟨rfl, ?_⟩⟩⟩
  rw [upd_ne hn] at hdx
  rw [upd_mkx]
  have pd : Px F1 H1 (F1.up dx (exd dx [(f, v)])) (upd H1 dx (exd dx [(f, v)])) := Px.new g1.wd.sub hdx
  have g2 := g1.px pd
  have hp2 : upd H1 dx (exd dx [(f, v)]) p = none := by rw [upd_ne (Ne.symm hn)]; exact hp
  have nd := g2.nedk hp2
  have px := Px.lay (o := exo p C (some dx)) g2.wd.sub hp2
  have fp := g2.wd.out hp2
  have no := g2.noown hp2
  refine q (.ref p) _ _ ((x1.trans pd.ext).trans (px.ext.ad hp2)) ((g2.px px).ad upd_same fp (g2.fresh0 hp2) nd.1 nd.2 no ?_) (.ref (ad_at (g2.px px).wd p))
  exact .exc hC upd_same Fz.up_same
theorem im_mk0 {c : Str} {C : Addr} (hC : clsOf K c = some C) : Im K (tMk0 C) (mk0M c) := fun dk H0 F0 F σ H env st d st' g e Q q => by
  cases e
  intro p hp
  have nd := g.nedk hp
  have px : Px F H F (upd H p (ExO (.ref C) p)) := Px.lay g.wd.sub hp
  have fp := g.wd.out hp
  have no := g.noown hp
  refine q (.ref p) _ _ (px.ext.ad hp) ((g.px px).ad upd_same fp (g.fresh0 hp) nd.1 nd.2 no ?_) (.ref (ad_at (g.px px).wd p))
  exact .exc0 hC upd_same
theorem im_mkf {c f : Str} {C : Addr} {te : TE} {a : ME} (ha : Im K te a) : Im K (tXfV C f (tMkV C (spEI C f) (tCons te tNil))) (mkfM c f a) := fun dk H0 F0 F σ H env st d st' g e Q q => by
  refine ha dk H0 F0 F σ H env st d st' g e _ fun v F1 H1 x1 g1 r1 => ?_
  refine ⟨by simp, fun p hp => ⟨p, v, rfl, upd_same, fun dx hdx hn => ⟨rfl, ?_⟩⟩⟩
  rw [upd_ne hn] at hdx
  rw [upd_mkx]
  refine ⟨p, dx, [(f, v)], v, rfl, upd_same, by rw [upd_ne hn, upd_same], by simp [List.lookup], ?_⟩
  have pd : Px F1 H1 F1 (upd H1 dx (exd dx [(f, v)])) := Px.lay g1.wd.sub hdx
  have g2 := g1.px pd
  have hp2 : upd H1 dx (exd dx [(f, v)]) p = none := by rw [upd_ne (Ne.symm hn)]; exact hp
  have px : Px F1 (upd H1 dx (exd dx [(f, v)])) F1 (upd (upd H1 dx (exd dx [(f, v)])) p (exo p C (some dx))) := Px.lay g2.wd.sub hp2
  exact q v F1 _ (x1.trans (pd.trans px).ext) (g1.px (pd.trans px)) r1
def isxM (tb : List (Str × Bool)) (fo : ME) : ME := fun env st => (fo env st).bind fun p => (refOf p.1).bind fun n => match p.2.ob[n]? with
  | some (.exc c) => (tb.lookup c).map fun b => (.bl b, p.2)
  | _ => none
/-- which classes' exceptions are of the class cv -/
def ExTab (K : Fg) (cv : Value) (tb : List (Str × Bool)) : Prop := ∀ c b, tb.lookup c = some b → ∀ C, clsOf K c = some C → kxB K C = true ∧ PySem.W.kitOne K (.ref C) cv = some b
theorem ExTab.nil {cv : Value} : ExTab K cv [] := fun c b h => by simp at h
theorem look_put {α : Type} (f g : Str) (y : α) (fs : List (Str × α)) : ((f, y) :: fs).lookup g = if g = f then some y else fs.lookup g := by
  by_cases h : g = f
  · subst h
    simp [List.lookup]
  · have e : (g == f) = false := by simpa using h
    rw [if_neg h]
    simp [List.lookup, e]
theorem ExTab.cons {cv : Value} {tb : List (Str × Bool)} {c : Str} {b : Bool} {C : Addr} (hc : clsOf K c = some C) (k : kxB K C = true) (h : PySem.W.kitOne K (.ref C) cv = some b) (t : ExTab K cv tb) : ExTab K cv ((c, b) :: tb) := fun c' b' h' C' hC' => by
  rw [look_put] at h'
  by_cases e : c' = c
  · rw [if_pos e] at h'
    cases h'
    subst e
    rw [hc] at hC'
    cases hC'
    exact ⟨k, h⟩
  · rw [if_neg e] at h'
    exact t c' b' h' C' hC'
theorem im_isx {te tc : TE} {f : ME} {c : V} {cv : Value} {tb : List (Str × Bool)} (hc : ClsV c cv) (htc : ∀ σ H (Q : VK), Q c H → tc σ H Q) (ht : ExTab K cv tb) (h : Im K te f) : Im K (tCB (rIsX K) (tCons te (tCons tc tNil))) (isxM tb f) := fun dk H0 F0 F σ H env st d st' g e Q q => by
  obtain ⟨⟨x, s1⟩, e1, e⟩ := bnd e
  obtain ⟨n, e2, e⟩ := bnd e
  split at e
  · rename_i c' he
    obtain ⟨b, e3, e⟩ := mpd e
    cases e
    refine h dk H0 F0 F σ H env st x _ g e1 _ fun v F1 H1 x1 g1 r1 => ?_
    have hx : x = .ref n := refOf_eq e2
    subst hx
    obtain ⟨a, rfl, ha⟩ := r1.refn
    refine htc _ _ _ ?_
    obtain ⟨_, o⟩ := g1.wd.ob n a _ ha he
    cases o with
    | @exc _ C' d' fs' h1 h2 h3 =>
      obtain ⟨k1, k2⟩ := ht _ _ e3 _ h1
      refine ⟨a, _, c, cv, b, rfl, hc, .inl ⟨d', fs', h2, ?_⟩, k1, k2, q (.bl b) F1 H1 x1 g1 (.bl b)⟩
      rcases g1.wd.sub _ _ h3 with z | ⟨od, kvs, z, _⟩
      · exact z
      · unfold exd at z; cases z
    | exc0 h1 h2 =>
      obtain ⟨k1, k2⟩ := ht _ _ e3 _ h1
      exact ⟨a, _, c, cv, b, rfl, hc, .inr h2, k1, k2, q (.bl b) F1 H1 x1 g1 (.bl b)⟩
  · cases e
/-- C.f, a number -/
theorem im_cval {C : Addr} {mc : Value} {f : Str} {i : Int} {u : Value} (r : CRead K C mc) (k : CVal K C mc f (.int i) u) : Im K (tCVal K (tCl C) f) (cst (.int i)) := fun dk H0 F0 F σ H env st d st' g e Q q => by
  cases e
  exact ⟨C, mc, .int i, u, rfl, r, k, q (.int i) F H (Ext.refl F H) g (.int i)⟩
end
/-! ### facts by name -/
noncomputable def exC (K : Fg) (c : Str) : Addr := (clsOf K c).getD 0
theorem clsOf_mk {K : Fg} {c : Str} {C : Addr} (a : PySem.W.nsIn K mainGlobals c = some (some (.ref C))) : clsOf K c = some C := by unfold clsOf; rw [a]
theorem exC_mk {K : Fg} {c : Str} {C : Addr} (a : PySem.W.nsIn K mainGlobals c = some (some (.ref C))) : exC K c = C := by unfold exC; rw [clsOf_mk a]; rfl
/-- the class c of exceptions, made with the field f -/
structure XV (P : Program) (w : World) (K : Fg) (mg : Str → Option Value) (base : Heap) (c f : Str) : Prop where
  cl : clsOf K c = some (exC K c)
  g : mg c = some (.ref (exC K c))
  k : ExK K (exC K c)
  ga : PySem.W.findIn K (.ref (exC K c)) "__getattribute__" = some (some (.builtin "BaseException.__getattribute__"))
  gg : PySem.W.findIn K (.ref (exC K c)) "__getattr__" = some none
  exC : PySem.W.subIn K (.ref (exC K c)) (.type "BaseException") = some true
  hd : PySem.W.hasDictIn K (MD.exC K c) = true
  no : PySem.W.findIn K (.ref (MD.exC K c)) f = some none
  ini : ∃ fI fd pn, PySem.W.findIn K (.ref (MD.exC K c)) "__init__" = some (some (.ref fI)) ∧ PySem.W.typeIn K (.ref fI) = some (.type "function") ∧ FnOk P w K mg base CX0 1 fI fd ["self", pn] (spEI (MD.exC K c) f) ∧ Binds K fd ["self", pn] []
theorem xv_of {P : Program} {w : World} {K : Fg} {mg : Str → Option Value} {base : Heap} {c f : Str} {C : Addr} (x : XCls P w K mg base c f C) (a : PySem.W.nsIn K mainGlobals c = some (some (.ref C))) : XV P w K mg base c f := by
  have e := exC_mk a
  subst e
  exact ⟨clsOf_mk a, x.g, exK_of x.o, x.ga, x.gg, x.o.exC, x.hd, x.no, x.ini⟩
theorem xv_ofL {P : Program} {w : World} {K : Fg} {mg : Str → Option Value} {base : Heap} {c f : Str} {C : Addr} (x : XClsL P w K mg base c f C) (a : PySem.W.nsIn K mainGlobals c = some (some (.ref C))) : XV P w K mg base c f := by
  have e := exC_mk a
  subst e
  exact ⟨clsOf_mk a, x.g, exK_ofL x.o, x.ga, x.gg, x.o.exC, x.hd, x.no, x.ini⟩
abbrev veT : List Value := [.type "ValueError", .type "Exception", .type "BaseException", .type "object"]
/-- the class c over ValueError, without own __init__ -/
structure XV0 (K : Fg) (mg : Str → Option Value) (c : Str) : Prop where
  cl : clsOf K c = some (exC K c)
  g : mg c = some (.ref (exC K c))
  ex : PySem.W.excIn K (exC K c) veT "ValueError.__new__" = true
  kc : PySem.W.keepIn K (.ref (exC K c)) = true
theorem xv0_of {K : Fg} {mg : Str → Option Value} {c : Str} {C : Addr} (a : PySem.W.nsIn K mainGlobals c = some (some (.ref C))) (g : mg c = some (.ref C)) (ex : PySem.W.excIn K C veT "ValueError.__new__" = true) (kc : PySem.W.keepIn K (.ref C) = true) : XV0 K mg c := by
  have e := exC_mk a
  subst e
  exact ⟨clsOf_mk a, g, ex, kc⟩
def kitAll (K : Fg) (cv : Value) (tb : List (Str × Bool)) : Bool := tb.all fun p => match clsOf K p.1 with
  | some C => kxB K C && (PySem.W.kitOne K (.ref C) cv == some p.2)
  | none => false
theorem exTab_of {K : Fg} {cv : Value} {tb : List (Str × Bool)} (h : kitAll K cv tb = true) : ExTab K cv tb := fun c b hl C hC => by
  have hm : (c, b) ∈ tb := by
    clear h
    induction tb with
    | nil => simp at hl
    | cons p l ih =>
      obtain ⟨c', b'⟩ := p
      rw [look_put] at hl
      by_cases e : c = c'
      · rw [if_pos e] at hl
        cases hl
        rw [e]
        exact List.mem_cons_self
      · rw [if_neg e] at hl
        exact List.mem_cons_of_mem _ (ih hl)
  have q := List.all_eq_true.mp h _ hm
  simp only [hC, Bool.and_eq_true, beq_iff_eq] at q
  exact q
/-- isinstance(.., T), T an own class -/
structure XT (K : Fg) (mg : Str → Option Value) (c : Str) (tb : List (Str × Bool)) : Prop where
  g : mg c = some (.ref (exC K c))
  t : ExTab K (.ref (exC K c)) tb
theorem xt_of {K : Fg} {mg : Str → Option Value} {c : Str} {C : Addr} {tb : List (Str × Bool)} (a : PySem.W.nsIn K mainGlobals c = some (some (.ref C))) (g : mg c = some (.ref C)) (h : kitAll K (.ref C) tb = true) : XT K mg c tb := by
  have e := exC_mk a
  subst e
  exact ⟨g, exTab_of h⟩
/-- C.f, a number -/
structure XCon (K : Fg) (mg : Str → Option Value) (c f : Str) (i : Int) : Prop where
  g : mg c = some (.ref (exC K c))
  r : CRead K (exC K c) (.type "type")
  v : ∃ t, CVal K (exC K c) (.type "type") f (.int i) (.int i t)
theorem xcon_of {K : Fg} {mg : Str → Option Value} {c f : Str} {i : Int} {C : Addr} {t : Tok} (a : PySem.W.nsIn K mainGlobals c = some (some (.ref C))) (g : mg c = some (.ref C)) (rd : PySem.W.readsIn K C (.type "type") = true)
    (ga : PySem.W.specialIn K (.ref C) "__getattribute__" = some (some (.builtin "type.__getattribute__"))) (h : PySem.W.findCls K (.ref C) (.type "type") f = some (.val (.int i t))) : XCon K mg c f i := by
  have e := exC_mk a
  subst e
  exact ⟨g, ⟨rd, ga⟩, t, h, ⟨t, rfl⟩⟩
section
variable {X : Cx} {c f : Str} {p pos : Pos} {e : Expr} {te : TE}
theorem pe_mkvX (v : XV X.prog X.w X.K X.mg X.base c f) (hr : Room 2 X.A) (ha : PA X [e] (tCons te tNil)) (hg : Gl X c := by rfl) (hdb : (c == ("__debug__" : Str)) = false := by decide)
    (he : starEach (e :: []) X.env = (false, eval e X.env) :: starEach [] X.env := by rfl) (hpl : (backTo pos (starEach [] X.env)).any (·.1) = false := by rfl) :
    PE X (.Call (.Name c p) [e] [] pos) (tMkV (exC X.K c) (spEI (exC X.K c) f) (tCons te tNil)) := by
  obtain ⟨fI, fd, pn, i1, i2, i3, i4⟩ := v.ini
  exact pe_mkv v.k i1 i2 i3 hr i4 (fun _ _ _ _ _ _ _ h => h.elim) hg v.g ha hdb he hpl
theorem pe_mk0X (v : XV0 X.K X.mg c) (hg : Gl X c := by rfl) (hdb : (c == ("__debug__" : Str)) = false := by decide) : PE X (.Call (.Name c p) [] [] pos) (tMk0 (exC X.K c)) :=
  pe_mk0 PySem.F.excBase_ValueError v.ex v.kc hg v.g hdb
theorem pe_xfX (v : XV X.prog X.w X.K X.mg X.base c f) (he : PE X e te) (hb : attributeBase e f X.env (eval e X.env) = eval e X.env := by rfl) : PE X (.Attribute e f pos) (tXfV (exC X.K c) f te) :=
  pe_xfv v.ga v.gg v.exC v.hd v.no he hb
theorem pe_conX {i : Int} (v : XCon X.K X.mg c f i) (hg : Gl X c := by rfl) (hdb : (c == ("__debug__" : Str)) = false := by decide)
    (hb : attributeBase (.Name c p) f X.env (eval (.Name c p) X.env) = eval (.Name c p) X.env := by rfl) : PE X (.Attribute (.Name c p) f pos) (tCVal X.K (tCl (exC X.K c)) f) :=
  pe_cval (pe_clName hg v.g hdb) hb
end
section
variable {K : Fg} {mg : Str → Option Value}
theorem im_conX {c f : Str} {i : Int} (v : XCon K mg c f i) : Im K (tCVal K (tCl (exC K c)) f) (cst (.int i)) := by
  obtain ⟨t, h⟩ := v.v
  exact im_cval v.r h
theorem im_isX {c : Str} {te : TE} {f : ME} {tb : List (Str × Bool)} (v : XT K mg c tb) (h : Im K te f) : Im K (tCB (rIsX K) (tCons te (tCons (tCl (exC K c)) tNil))) (isxM tb f) :=
  im_isx (.own _) (fun _ _ _ q => q) v.t h
theorem im_isB {T : String} {te : TE} {f : ME} {tb : List (Str × Bool)} (v : ExTab K (.type T) tb) (h : Im K te f) : Im K (tCB (rIsX K) (tCons te (tCons (tTy T) tNil))) (isxM tb f) :=
  im_isx (.ty T) (fun _ _ _ q => q) v h
end
end MD

set_option Elab.async false
set_option linter.all false
set_option maxRecDepth 100000
set_option maxHeartbeats 1000000
namespace MD
open PySem L2
variable {ww : WW}

/-! ### mirrors, evaluated -/
noncomputable def grd {α : Type} (n : Nat) (o : Option α) : Option α := cif (n ≤ sizeLine) o
theorem grd_eq {α : Type} (n : Nat) (o : Option α) : (if n ≤ sizeLine then o else none) = grd n o := cif_eq _ _
theorem grd_lt {α : Type} (n : Nat) (o : Option α) : (if n < sizeLine then o else none) = grd (n + 1) o := cif_eq _ _
theorem grd_of {α : Type} {n : Nat} {o : Option α} (h : n ≤ 1000000) : grd n o = o := if_pos (Nat.le_trans h (by decide))
noncomputable def rng1 : List D → Option (List D)
  | [.int j] => cif (-(2 ^ 62) ≤ j ∧ j < 2 ^ 62) (some (rngD 0 j.toNat))
  | _ => none
noncomputable def rng2 : List D → Option (List D)
  | [.int i, .int j] => cif (-(2 ^ 62) ≤ i ∧ i < 2 ^ 62 ∧ -(2 ^ 62) ≤ j ∧ j < 2 ^ 62) (some (rngD i (j - i).toNat))
  | _ => none
theorem rng1_of {j : Int} (h0 : -1000000 ≤ j) (h1 : j ≤ 1000000) : rng1 [.int j] = some (rngD 0 j.toNat) := cif_of ⟨by omega, by omega⟩
theorem rng2_of {i j : Int} (h0 : -1000000 ≤ i) (h1 : i ≤ 1000000) (h2 : -1000000 ≤ j) (h3 : j ≤ 1000000) : rng2 [.int i, .int j] = some (rngD i (j - i).toNat) := cif_of ⟨by omega, by omega, by omega, by omega⟩
theorem rngD_len (lo : Int) (n : Nat) : (rngD lo n).length = n := by unfold rngD; simp
theorem small_sz {n : Nat} (h : n ≤ 1000000) : n ≤ sizeLine := Nat.le_trans h (by decide)
/-! what does not stand in the store is itself -/
@[simp] theorem dr_non (st : S) : dr st .non = .non := (rfl)
@[simp] theorem dr_bl (st : S) (b : Bool) : dr st (.bl b) = .bl b := (rfl)
@[simp] theorem dr_int (st : S) (i : Int) : dr st (.int i) = .int i := (rfl)
@[simp] theorem dr_str (st : S) (x : Str) : dr st (.str x) = .str x := (rfl)
@[simp] theorem dr_lst (st : S) (ds : List D) : dr st (.lst ds) = .lst ds := (rfl)
@[simp] theorem dr_tup (st : S) (ds : List D) : dr st (.tup ds) = .tup ds := (rfl)
@[simp] theorem dr_deck (st : S) : dr st .deck = .deck := (rfl)
@[simp] theorem dr_dic (st : S) (ks : List L2.Key) (ds : List D) : dr st (.dic ks ds) = .dic ks ds := (rfl)
theorem dr_ref (st : S) (n : Nat) : dr st (.ref n) = match st.ob[n]? with | some (.lst ds) => .lst ds | some (.dic _ ks ds) => .dic ks ds | _ => .ref n := (rfl)
theorem dr_of {st : S} {d : D} (h : ∀ n, d ≠ .ref n) : dr st d = d := by
  cases d with
  | ref n => exact absurd rfl (h n)
  | _ => rfl
@[simp] theorem nonD_dr (st : S) (d : D) : nonD (dr st d) = nonD d := by
  cases d with
  | ref n =>
    rw [dr_ref]
    split <;> rfl
  | _ => rfl
@[simp] theorem map_dr_nil (st : S) : List.map (dr st) [] = [] := rfl
section
variable {env : Sg} {st : S} {f h fa fb fc fe fo : ME} {c : MT} {a r : MA} {i j n : Nat} {d e : D} {ds es : List D}
@[simp] theorem v_frz : frz a env st = (a env st).map fun p => (D.lst p.1, p.2) := (rfl)
@[simp] theorem v_rd : rd i env st = (match env[i]? with | some (.val d) => some (d, st) | _ => none) := (rfl)
@[simp] theorem v_rdW : rdW i env st = (match env[i]? with | some (.val d) => some (d, st) | some (.own (.lst, ds)) => some (D.lst ds, st) | some (.own (.dic ks, ds)) => some (D.dic ks ds, st) | _ => none) := (rfl)
@[simp] theorem v_cst : cst d env st = some (d, st) := (rfl)
@[simp] theorem v_opM {g : D → D → Option D} : opM g fa fb env st = (fa env st).bind fun p => (fb env p.2).bind fun q => (g (dr q.2 p.1) (dr q.2 q.1)).map fun z => (z, q.2) := (rfl)
@[simp] theorem v_unM {g : D → Option D} : unM g fa env st = (fa env st).bind fun p => (g p.1).map fun z => (z, p.2) := (rfl)
@[simp] theorem v_slM {g : D → Option Int → Option Int → Option D} {fl fh : MO} : slM g fe fl fh env st = (fe env st).bind fun p => (fl env p.2).bind fun l => (fh env l.2).bind fun u => (g (dr u.2 p.1) l.1 u.1).map fun z => (z, u.2) := (rfl)
@[simp] theorem v_noP : noP env st = some (none, st) := (rfl)
@[simp] theorem v_prt : prt f env st = (f env st).bind fun p => (intOf p.1).map fun i => (some i, p.2) := (rfl)
@[simp] theorem v_aNil : aNil env st = some ([], st) := (rfl)
@[simp] theorem v_aCons : aCons f r env st = (f env st).bind fun p => (r env p.2).map fun q => (p.1 :: q.1, q.2) := (rfl)
@[simp] theorem v_tupM : tupM a env st = (a env st).bind fun p => grd p.1.length (some (D.tup p.1, p.2)) := by
  unfold tupM; simp only [grd_eq]
@[simp] theorem v_lstM : lstM a env st = (a env st).bind fun p => grd p.1.length (some p) := by
  unfold lstM; simp only [grd_eq]
@[simp] theorem v_cbM {g : List D → Option D} : cbM g a env st = (a env st).bind fun p => (g (p.1.map (dr p.2))).map fun z => (z, p.2) := (rfl)
@[simp] theorem v_m1M {g : D → List D → Option D} : m1M g fo fe env st = (fo env st).bind fun p => if isStrD p.1 then (fe env p.2).bind fun q => (g p.1 [dr q.2 q.1]).map fun z => (z, q.2) else none := (rfl)
@[simp] theorem v_bmL {g : D → List D → Option D} : bmL g fo a env st = (fo env st).bind fun p => if isLstD (dr p.2 p.1) then (a env p.2).bind fun q => (g (dr q.2 p.1) (q.1.map (dr q.2))).map fun z => (z, q.2) else none := (rfl)
@[simp] theorem v_tstM : tstM f env st = (f env st).bind fun p => (blOf p.1).map fun b => (b, p.2) := (rfl)
@[simp] theorem v_truM : truM f env st = (f env st).bind fun p => (truD (dr p.2 p.1)).map fun b => (b, p.2) := (rfl)
@[simp] theorem v_andM {c' : MT} : andM c c' env st = (c env st).bind fun p => if p.1 then c' env p.2 else some (false, p.2) := (rfl)
@[simp] theorem v_orM {c' : MT} : orM c c' env st = (c env st).bind fun p => if p.1 then some (true, p.2) else c' env p.2 := (rfl)
@[simp] theorem v_notM : notM c env st = (c env st).map fun p => (!p.1, p.2) := (rfl)
@[simp] theorem v_andV : andV f h env st = (f env st).bind fun p => (blOf p.1).bind fun b => if b then h env p.2 else some (D.bl false, p.2) := (rfl)
@[simp] theorem v_orV : orV f h env st = (f env st).bind fun p => (blOf p.1).bind fun b => if b then some (D.bl true, p.2) else h env p.2 := (rfl)
@[simp] theorem v_notV : notV f env st = (f env st).bind fun p => (blOf p.1).map fun b => (D.bl (!b), p.2) := (rfl)
@[simp] theorem v_ifM : ifM c f h env st = (c env st).bind fun p => if p.1 then f env p.2 else h env p.2 := (rfl)
@[simp] theorem v_chM {g g' : D → D → Option D} : chM g g' fa fb fc env st = (fa env st).bind fun p => (fb env p.2).bind fun q => (g p.1 q.1).bind fun z => (blOf z).bind fun b =>
  if b then (fc env q.2).bind fun r => (g' q.1 r.1).map fun z => (z, r.2) else some (D.bl false, q.2) := (rfl)
@[simp] theorem v_nxM : nxM env st = some (.nx env, st) := (rfl)
@[simp] theorem v_seqM {p q : MS} : seqM p q env st = (p env st).bind fun x => match x.1 with | .nx e => q e x.2 | fl => some (fl, x.2) := (rfl)
@[simp] theorem v_retM : retM f env st = (f env st).map fun p => (.rt p.1, p.2) := (rfl)
@[simp] theorem v_retN : retN env st = some (.rt .non, st) := (rfl)
@[simp] theorem v_ifS {p q : MS} : ifS c p q env st = (c env st).bind fun x => if x.1 then p env x.2 else q env x.2 := (rfl)
@[simp] theorem v_dropM : dropM f env st = (f env st).map fun p => (.nx env, p.2) := (rfl)
@[simp] theorem v_nameT : nameT i d env = some (env.set i (.val d)) := (rfl)
@[simp] theorem v_nilT : nilT [] env = some env := (rfl)
@[simp] theorem v_consT {t : MG} {u : List D → Sg → Option Sg} : consT t u (d :: ds) env = (t d env).bind fun e => u ds e := (rfl)
@[simp] theorem v_tupT {u : List D → Sg → Option Sg} : tupT n u (.tup ds) env = if ds.length = n then u ds env else none := (rfl)
@[simp] theorem v_asgM {t : MG} : asgM t f env st = (f env st).bind fun p => (t p.1 env).map fun e => (.nx e, p.2) := (rfl)
@[simp] theorem v_ownM : ownM i a env st = (a env st).map fun p => (.nx (env.set i (.own (.lst, p.1))), p.2) := (rfl)
@[simp] theorem v_parM : parM i j a env st = (a env st).bind fun p => (two i j env p.1).map fun e => (.nx e, p.2) := (rfl)
@[simp] theorem v_two : two i j env [d, e] = some ((env.set i (.val d)).set j (.val e)) := (rfl)
@[simp] theorem v_augM {op : D → D → Option D} : augM i op f env st = (match env[i]? with | some (.val x) => (f env st).bind fun p => (op x p.1).map fun z => (.nx (env.set i (.val z)), p.2) | _ => none) := (rfl)
@[simp] theorem v_frzM {p : MS} : frzM i p env st = p (frzE i env) st := (rfl)
@[simp] theorem v_frzE : frzE i env = (match env[i]? with | some (.own (.lst, ds)) => env.set i (.val (.lst ds)) | some (.own (.dic ks, ds)) => env.set i (.val (.dic ks ds)) | _ => env) := (rfl)
@[simp] theorem v_appM : appM i f env st = (match env[i]? with | some (.own (.lst, ds)) => grd (ds.length + 1) ((f env st).map fun p => (.nx (env.set i (.own (.lst, ds ++ [p.1]))), p.2)) | _ => none) := by
  unfold appM; simp only [grd_lt] <;> rfl
@[simp] theorem v_extM : extM i f env st = (match env[i]? with | some (.own (.lst, ds)) => (f env st).bind fun p => (lstOf (dr p.2 p.1)).bind fun es => grd (ds.length + es.length) (some (.nx (env.set i (.own (.lst, ds ++ es))), p.2)) | _ => none) := by
  unfold extM; simp only [grd_eq] <;> rfl
@[simp] theorem v_yesM : yesM env st = some (true, st) := (rfl)
@[simp] theorem v_r1M : r1M a env st = (a env st).bind fun p => (rng1 p.1).map fun ds => (ds, p.2) := by
  unfold r1M
  congr 1
  funext p
  obtain ⟨l, s⟩ := p
  show (match l with | [.int j] => if -(2 ^ 62) ≤ j ∧ j < 2 ^ 62 then some (rngD 0 j.toNat, s) else none | _ => none) = (rng1 l).map fun ds => (ds, s)
  unfold rng1
  split
  · rw [cif_eq]; unfold cif; split <;> rfl
  · rfl
@[simp] theorem v_r2M : r2M a env st = (a env st).bind fun p => (rng2 p.1).map fun ds => (ds, p.2) := by
  unfold r2M
  congr 1
  funext p
  obtain ⟨l, s⟩ := p
  show (match l with | [.int i, .int j] => if -(2 ^ 62) ≤ i ∧ i < 2 ^ 62 ∧ -(2 ^ 62) ≤ j ∧ j < 2 ^ 62 then some (rngD i (j - i).toNat, s) else none | _ => none) = (rng2 l).map fun ds => (ds, s)
  unfold rng2
  split
  · rw [cif_eq]; unfold cif; split <;> rfl
  · rfl
@[simp] theorem v_seqI : seqI f env st = (f env st).bind fun p => (seqOf p.1).map fun ds => (ds, p.2) := (rfl)
@[simp] theorem v_enumI : enumI f env st = (f env st).bind fun p => (seqOf p.1).map fun ds => (enumD ds, p.2) := (rfl)
@[simp] theorem v_forM {it : MI} {t : MG} {b : MS} : forM it t b env st = (it env st).bind fun p => forL t b p.1 env p.2 := (rfl)
@[simp] theorem v_compM {it : MI} {t : MG} {vs : List Nat} : compM it t c f vs env st = (it env st).bind fun p => grd p.1.length (compL t c f (wipeE env vs) p.1 p.2) := by
  unfold compM; simp only [grd_eq]
@[simp] theorem v_callM {m : MF} : callM m a env st = (a env st).bind fun p => m p.1 p.2 := (rfl)
@[simp] theorem v_runM {b : MS} : runM n b ds st = (b (ds.map Sl.val ++ List.replicate (n - ds.length) Sl.un) st).bind fun p => match p.1 with | .rt d => some (d, p.2) | .nx _ => some (.non, p.2) | _ => none := (rfl)
@[simp] theorem v_wipe0 : wipeE env [] = env := (rfl)
@[simp] theorem v_wipe1 {v : Nat} {vs : List Nat} : wipeE env (v :: vs) = (wipeE env vs).set v .un := (rfl)
@[simp] theorem v_forL0 {t : MG} {b : MS} : forL t b [] env st = some (.nx env, st) := (rfl)
theorem v_forL {t : MG} {b : MS} : forL t b (d :: ds) env st = (t d env).bind fun env1 => (b env1 st).bind fun p => match p.1 with
    | .nx e => forL t b ds e p.2
    | .ct e => forL t b ds e p.2
    | .bk e => some (.nx e, p.2)
    | .rt r => some (.rt r, p.2) := (rfl)
@[simp] theorem v_compL0 {t : MG} : compL t c f env [] st = some ([], st) := (rfl)
theorem v_compL {t : MG} : compL t c f env (d :: ds) st = (t d env).bind fun e => (c e st).bind fun p => if p.1 then (f e p.2).bind fun q => (compL t c f env ds q.2).map fun r => (q.1 :: r.1, r.2) else compL t c f env ds p.2 := (rfl)
/-! dicts, the store -/
@[simp] theorem v_frzK {k : MK} : frzK k env st = (k env st).map fun p => (D.dic p.1.1 p.1.2, p.2) := (rfl)
@[simp] theorem v_ownK {k : MK} : ownK i k env st = (k env st).map fun p => (.nx (env.set i (.own (.dic p.1.1, p.1.2))), p.2) := (rfl)
@[simp] theorem v_newK : newK env st = some (([], []), st) := (rfl)
@[simp] theorem v_cpyK : cpyK f env st = (f env st).bind fun p => (isDicD (dr p.2 p.1)).map fun q => (q, p.2) := (rfl)
@[simp] theorem v_isDic {ks : List L2.Key} : isDicD (.dic ks ds) = some (ks, ds) := (rfl)
@[simp] theorem v_pNil : pNil env st = some ([], st) := (rfl)
@[simp] theorem v_pCons {r : MP} : pCons f h r env st = (f env st).bind fun p => (keyOf p.1).bind fun k => (h env p.2).bind fun q => (r env q.2).map fun z => ((k, q.1) :: z.1, z.2) := (rfl)
@[simp] theorem v_dispK {r : MP} : dispK r env st = (r env st).bind fun p => if p.1.length ≤ 15 then some (mrgL [] [] p.1, p.2) else none := (rfl)
@[simp] theorem v_mrg1 {k : L2.Key} : mrgL [] [] [(k, d)] = ([k], [d]) := (rfl)
@[simp] theorem v_keyI {j : Int} : keyOf (.int j) = some (.inl j) := (rfl)
@[simp] theorem v_keyS {x : Str} : keyOf (.str x) = some (.inr x) := (rfl)
@[simp] theorem v_get1M : get1M f h env st = (f env st).bind fun p => (isDicD (dr p.2 p.1)).bind fun _ => (h env p.2).bind fun q => (isDicD (dr q.2 p.1)).bind fun z => (keyOf q.1).map fun k => ((getK z.1 z.2 k).getD .non, q.2) := (rfl)
@[simp] theorem v_get2M : get2M f h fa env st = (f env st).bind fun p => (isDicD (dr p.2 p.1)).bind fun _ => (h env p.2).bind fun q => (fa env q.2).bind fun r => (isDicD (dr r.2 p.1)).bind fun z => (keyOf q.1).map fun k => ((getK z.1 z.2 k).getD r.1, r.2) := (rfl)
@[simp] theorem v_dputM : dputM i f h env st = (match env[i]? with
  | some (.own (.dic ks, ds)) => (h env st).bind fun p => (f env p.2).bind fun q => (keyOf q.1).bind fun k => grd (ds.length + 1) (some (.nx (env.set i (.own (.dic (putKs ks k), putVs ks ds k p.1))), q.2))
  | _ => none) := by
  unfold dputM; simp only [grd_lt] <;> rfl
@[simp] theorem v_subD {ks : List L2.Key} : subD (.dic ks ds) d = (keyOf d).bind fun k => getK ks ds k := (rfl)
@[simp] theorem v_subL : subD (.lst ds) d = ixM (.lst ds) d := (rfl)
@[simp] theorem v_subT : subD (.tup ds) d = ixM (.tup ds) d := (rfl)
@[simp] theorem v_subS {x : Str} : subD (.str x) d = ixM (.str x) d := (rfl)
@[simp] theorem v_cntD {n : Bool} {ks : List L2.Key} : cntD n d (.dic ks ds) = (keyOf d).map fun k => .bl (if n then !(getK ks ds k).isSome else (getK ks ds k).isSome) := (rfl)
@[simp] theorem v_cntL {n : Bool} : cntD n d (.lst ds) = if n then notInM d (.lst ds) else inM d (.lst ds) := (rfl)
@[simp] theorem v_cntT {n : Bool} : cntD n d (.tup ds) = if n then notInM d (.tup ds) else inM d (.tup ds) := (rfl)
@[simp] theorem v_cntS {n : Bool} {x : Str} : cntD n d (.str x) = if n then notInM d (.str x) else inM d (.str x) := (rfl)
@[simp] theorem v_lenAD {ks : List L2.Key} : lenA [.dic ks ds] = some (.int ks.length) := (rfl)
@[simp] theorem v_lenAL : lenA [.lst ds] = some (.int ds.length) := (rfl)
@[simp] theorem v_lenAT : lenA [.tup ds] = some (.int ds.length) := (rfl)
@[simp] theorem v_lenAS {z : Str} : lenA [.str z] = grd z.length (some (.int z.length)) := by
  show lenM [.str z] = _
  show (if z.length ≤ sizeLine then some (D.int z.length) else none) = _
  rw [grd_eq]
@[simp] theorem v_stoL : stoL a env st = (a env st).map fun p => (D.ref p.2.ob.length, p.2.ad (.lst p.1)) := (rfl)
@[simp] theorem v_stoK {k : MK} : stoK k env st = (k env st).map fun p => (D.ref p.2.ob.length, p.2.ad (.dic false p.1.1 p.1.2)) := (rfl)
@[simp] theorem v_refOf {n : Nat} : refOf (.ref n) = some n := (rfl)
@[simp] theorem v_sappM : sappM f h env st = (f env st).bind fun o => (refOf o.1).bind fun n => (lstAt o.2 n).bind fun _ => (h env o.2).bind fun p => (lstAt p.2 n).bind fun ds => grd (ds.length + 1) (some (.nx env, p.2.put n (.lst (ds ++ [p.1])))) := by
  unfold sappM; simp only [grd_lt]
@[simp] theorem v_sputM : sputM f h fa env st = (fa env st).bind fun p => (f env p.2).bind fun o => (refOf o.1).bind fun n => (h env o.2).bind fun q => (keyOf q.1).bind fun k => (dicAt q.2 n).bind fun z => grd (z.2.length + 1) (some (.nx env, q.2.put n (.dic false (putKs z.1 k) (putVs z.1 z.2 k p.1)))) := by
  unfold sputM; simp only [grd_lt]
@[simp] theorem v_spopM : spopM f env st = (f env st).bind fun o => (refOf o.1).bind fun n => (lstAt o.2 n).bind fun ds => (ds[ds.length - 1]?).map fun d => (d, o.2.put n (.lst ds.dropLast)) := (rfl)
@[simp] theorem v_listM : listM a env st = (a env st).bind fun p => (listD (p.1.map (dr p.2))).map fun z => (z, p.2) := (rfl)
@[simp] theorem v_listDL : listD [.lst ds] = some ds := (rfl)
@[simp] theorem v_listDT : listD [.tup ds] = some ds := (rfl)
@[simp] theorem v_listDD {ks : List L2.Key} : listD [.dic ks ds] = some (ks.map keyD) := (rfl)
@[simp] theorem v_isiM {T : String} : isiM T f env st = (f env st).bind fun p => (tyD (dr p.2 p.1)).bind fun t => (kitB t T).map fun b => (D.bl b, p.2) := (rfl)
@[simp] theorem v_dcM {it : MI} {t : MG} {vs : List Nat} : dcM it t c f h vs env st = (it env st).bind fun p => grd p.1.length (dcL t c f h (wipeE env vs) p.1 ([], []) p.2) := by
  unfold dcM; simp only [grd_eq]
@[simp] theorem v_mulAI {x y : Int} : mulA (.int x) (.int y) = mulM (.int x) (.int y) := (rfl)
/-! values -/
@[simp] theorem v_intOf {i : Int} : intOf (.int i) = some i := (rfl)
@[simp] theorem v_blOf {b : Bool} : blOf (.bl b) = some b := (rfl)
@[simp] theorem v_isStr {s : Str} : isStrD (.str s) = true := (rfl)
@[simp] theorem v_isLst : isLstD (.lst ds) = true := (rfl)
@[simp] theorem v_iI {g : Int → Int → D} {i j : Int} : iI g (.int i) (.int j) = some (g i j) := (rfl)
theorem v_iIC0 {C : Int → Int → Prop} [∀ i j, Decidable (C i j)] {g : Int → Int → D} {i j : Int} (h : C i j) : iIC C g (.int i) (.int j) = some (g i j) := if_pos h
@[simp] theorem v_unI {g : Int → D} {i : Int} : unI g (.int i) = some (g i) := (rfl)
@[simp] theorem v_addI {i j : Int} : addM (.int i) (.int j) = some (.int (i + j)) := (rfl)
@[simp] theorem v_addS {i j : Str} : addM (.str i) (.str j) = grd (i.length + j.length) (some (.str (i ++ j))) := by
  rw [← grd_eq]; rfl
@[simp] theorem v_addT {i j : List D} : addM (.tup i) (.tup j) = grd (i.length + j.length) (some (.tup (i ++ j))) := by
  rw [← grd_eq]; rfl
@[simp] theorem v_addL {i j : List D} : addM (.lst i) (.lst j) = grd (i.length + j.length) (some (.lst (i ++ j))) := by
  rw [← grd_eq]; rfl
@[simp] theorem v_ixL {i : Int} : ixM (.lst ds) (.int i) = L2.atI ds i := (rfl)
@[simp] theorem v_ixT {i : Int} : ixM (.tup ds) (.int i) = L2.atI ds i := (rfl)
@[simp] theorem v_ixS {z : Str} {i : Int} : ixM (.str z) (.int i) = grd z.length ((L2.atI z.cps.toList i).map fun c => .str ⟨#[c]⟩) := by
  rw [← grd_eq]; rfl
@[simp] theorem v_lenS {z : Str} : lenM [.str z] = grd z.length (some (.int z.length)) := by
  rw [← grd_eq]; rfl
@[simp] theorem v_lenL : lenM [.lst ds] = some (.int ds.length) := (rfl)
@[simp] theorem v_lenT : lenM [.tup ds] = some (.int ds.length) := (rfl)
@[simp] theorem v_seqL : seqOf (.lst ds) = some ds := (rfl)
@[simp] theorem v_seqT : seqOf (.tup ds) = some ds := (rfl)
@[simp] theorem v_seqS {x : Str} : seqOf (.str x) = some ((signs x).map D.str) := (rfl)
@[simp] theorem v_tupleL : tupleM [.lst ds] = some (.tup ds) := (rfl)
@[simp] theorem v_tupleT : tupleM [.tup ds] = some (.tup ds) := (rfl)
@[simp] theorem v_tupleS {x : Str} : tupleM [.str x] = grd x.cps.size (some (.tup ((signs x).map D.str))) := by
  rw [← grd_eq]; rfl
@[simp] theorem v_slT {lo hi : Option Int} : slAny (.tup ds) lo hi = some (.tup (cutD ds lo hi)) := (rfl)
@[simp] theorem v_slS {z : Str} {lo hi : Option Int} : slAny (.str z) lo hi = grd z.length (some (.str (cutS z lo hi))) := by
  rw [← grd_eq]
  unfold slAny slTup slStr slLst
  by_cases h : z.length ≤ sizeLine <;> simp [h, Option.orElse]
@[simp] theorem v_slL {lo hi : Option Int} : slAny (.lst ds) lo hi = some (.lst (cutD ds lo hi)) := (rfl)
@[simp] theorem v_sumM : sumM [.lst ds] = (intsOf ds).map fun ns => .int ns.sum := (rfl)
@[simp] theorem v_maxM : maxM [.lst (d :: ds)] = (intsOf (d :: ds)).map fun ns => .int (topI ns) := (rfl)
@[simp] theorem v_minM : minM [.lst (d :: ds)] = (intsOf (d :: ds)).map fun ns => .int (botI ns) := (rfl)
@[simp] theorem v_int1 {i : Int} : int1M [.int i] = some (.int i) := (rfl)
@[simp] theorem v_lstOf : lstOf (.lst ds) = some ds := (rfl)
@[simp] theorem intsOf_map (ns : List Int) : intsOf (ns.map D.int) = some ns := by
  induction ns with
  | nil => rfl
  | cons x r ih => show (intsOf (r.map D.int)).map (x :: ·) = _; rw [ih]; rfl
@[simp] theorem strsOf_map (ns : List Str) : strsOf (ns.map D.str) = some ns := by
  induction ns with
  | nil => rfl
  | cons x r ih => show (strsOf (r.map D.str)).map (x :: ·) = _; rw [ih]; rfl
end

/-! ### words as lists of codes -/
def W (ws : List Nat) : Str := ⟨ws.toArray⟩
@[simp] theorem W_len (ws : List Nat) : (W ws).length = ws.length := by show ws.toArray.size = _; simp
@[simp] theorem W_size (ws : List Nat) : (W ws).cps.size = ws.length := by show ws.toArray.size = _; simp
@[simp] theorem W_list (ws : List Nat) : (W ws).cps.toList = ws := by show ws.toArray.toList = _; simp
theorem W_inj {a b : List Nat} (h : W a = W b) : a = b := by
  have := congrArg (fun s : Str => s.cps.toList) h
  simpa using this
theorem W_of (s : Str) : W s.cps.toList = s := by
  obtain ⟨⟨l⟩⟩ := s
  rfl
@[simp] theorem W_signs (ws : List Nat) : signs (W ws) = ws.map fun c => W [c] := by
  unfold signs
  rw [W_list]
  rfl
theorem W_app (a b : List Nat) : W a ++ W b = W (a ++ b) := by
  show (⟨(W a).cps ++ (W b).cps⟩ : Str) = _
  unfold W
  simp
theorem sIx_some {n : Nat} {i : Int} (h0 : 0 ≤ i) (h1 : i ≤ n) (d : Nat) : HT.sIx n d (some i) = i.toNat := by
  have e := HT.sIx_nat n d i.toNat
  rw [Int.toNat_of_nonneg h0] at e
  rw [e]
  omega
theorem cutW_to {ws : List Nat} {n : Int} (h0 : 0 ≤ n) (h1 : n ≤ ws.length) : cutS (W ws) none (some n) = W (ws.take n.toNat) := by
  unfold cutS
  rw [W_list, W_len, HT.sIx_none, sIx_some h0 h1]
  rfl
theorem cutW_from {ws : List Nat} {n : Int} (h0 : 0 ≤ n) (h1 : n ≤ ws.length) : cutS (W ws) (some n) none = W (ws.drop n.toNat) := by
  unfold cutS
  rw [W_list, W_len, HT.sIx_none, sIx_some h0 h1]
  show (⟨((ws.drop n.toNat).take (ws.length - n.toNat)).toArray⟩ : Str) = _
  rw [List.take_of_length_le (by rw [List.length_drop]; exact Nat.le_refl _)]
  rfl
theorem cutD_from {ds : List D} {n : Int} (h0 : 0 ≤ n) (h1 : n ≤ ds.length) : cutD ds (some n) none = ds.drop n.toNat := by
  unfold cutD
  rw [HT.sIx_none, sIx_some h0 h1]
  exact List.take_of_length_le (by rw [List.length_drop]; exact Nat.le_refl _)
theorem cutD_to {ds : List D} {n : Int} (h0 : 0 ≤ n) (h1 : n ≤ ds.length) : cutD ds none (some n) = ds.take n.toNat := by
  unfold cutD
  rw [HT.sIx_none, sIx_some h0 h1]
  rfl
theorem atI_of {α : Type} {xs : List α} {j : Nat} {x : α} (h : xs[j]? = some x) : L2.atI xs (j : Int) = some x := atI_nat h
theorem atI_nn {α : Type} {xs : List α} {i : Int} (h0 : 0 ≤ i) : L2.atI xs i = xs[i.toNat]? := by
  unfold L2.atI ixN
  rw [if_pos h0]
  by_cases h : i < xs.length
  · rw [if_pos h]; rfl
  · rw [if_neg h, List.getElem?_eq_none (by omega)]; rfl
/-! letters -/
def Let (k : Nat) (c : Nat) : Prop := 97 ≤ c ∧ c < 97 + k
theorem occ_abcd {c : Nat} (h : Let 4 c) : Builtin.Str.occurrences "abcd" (W [c]) 0 ("abcd" : Str).length 1 = [c - 97] := by
  obtain ⟨h1, h2⟩ := h
  have : c = 97 ∨ c = 98 ∨ c = 99 ∨ c = 100 := by omega
  rcases this with rfl | rfl | rfl | rfl <;> decide +kernel
theorem idx_abcd {c : Nat} (h : Let 4 c) : sindexM (.str "abcd") [.str (W [c])] = some (.int ((c - 97 : Nat) : Int)) := by
  show (match Builtin.Str.occurrences "abcd" (W [c]) 0 ("abcd" : Str).length 1 with | i :: _ => some (D.int (i : Nat)) | [] => none) = _
  rw [occ_abcd h]
theorem abcd_W : ("abcd" : Str) = W [97, 98, 99, 100] := by decide +kernel
theorem empty_W : ("" : Str) = W [] := by decide +kernel
/-! comparisons -/
@[simp] theorem eq_int (i j : Int) : eqM (.int i) (.int j) = some (.bl (decide (i = j))) := (rfl)
@[simp] theorem ne_int (i j : Int) : neM (.int i) (.int j) = some (.bl (!decide (i = j))) := (rfl)
@[simp] theorem eq_str (i j : Str) : eqM (.str i) (.str j) = some (.bl (decide (i = j))) := (rfl)
@[simp] theorem ne_str (i j : Str) : neM (.str i) (.str j) = some (.bl (!decide (i = j))) := (rfl)
@[simp] theorem is_non (d : D) : isM d .non = some (.bl (nonD d)) := (rfl)
@[simp] theorem isnot_non (d : D) : isNotM d .non = some (.bl (!nonD d)) := (rfl)
theorem pyAll_ints (ns : List Int) : pyAll (ns.map D.int) = ns.map PyData.int := by
  induction ns with
  | nil => rfl
  | cons x r ih => show D.py (.int x) :: pyAll (r.map D.int) = _; rw [ih]; rfl
theorem plAll_ints (ns : List Int) : plAll (ns.map D.int) = true := by
  induction ns with
  | nil => rfl
  | cons x r ih => show (D.pl (.int x) && plAll (r.map D.int)) = true; rw [ih]; rfl
theorem lay_ints (ns : List Int) : PyData.canLayAll0 (ns.map PyData.int) = true := by
  induction ns with
  | nil => rfl
  | cons x r ih => show (PyData.canLay0 (.int x) && PyData.canLayAll0 (r.map PyData.int)) = true; rw [ih]; rfl
theorem depth_ints (ns : List Int) : PyData.depthAll (ns.map PyData.int) ≤ 1 := by
  induction ns with
  | nil => simp [PyData.depthAll]
  | cons x r ih => simp [PyData.depthAll, PyData.depth] at ih ⊢; omega
theorem eqv_ints : ∀ (a b : List Int), PyData.eqvAll (a.map PyData.int) (b.map PyData.int) = decide (a = b)
  | [], [] => by rfl
  | [], y :: b => by rfl
  | x :: a, [] => by rfl
  | x :: a, y :: b => by
    show (PyData.eqv (.int x) (.int y) && PyData.eqvAll (a.map PyData.int) (b.map PyData.int)) = _
    rw [eqv_ints a b]
    show ((x == y) && decide (a = b)) = _
    by_cases h1 : x = y
    · by_cases h2 : a = b
      · simp [h1, h2]
      · simp [h1, h2]
    · simp [h1]
theorem okD_ints (ns : List Int) : okD (.lst (ns.map D.int)) = true := by
  unfold okD
  rw [D.pl, plAll_ints, D.py, pyAll_ints]
  show (true && SeqAt.shaped (.list (ns.map PyData.int))) = true
  unfold SeqAt.shaped
  rw [PyData.canLay0, lay_ints]
  have := depth_ints ns
  simp [PyData.depth]
  omega
theorem ne_ints (a b : List Int) : neM (.lst (a.map D.int)) (.lst (b.map D.int)) = some (.bl (!decide (a = b))) := by
  unfold neM eqB
  have e : sEq (.lst (a.map D.int)) (.lst (b.map D.int)) = none := rfl
  rw [e]
  simp only [okD_ints, Bool.and_self, if_true, Option.map_some, D.py, pyAll_ints, PyData.eqv, eqv_ints]
theorem eq_ints (a b : List Int) : eqM (.lst (a.map D.int)) (.lst (b.map D.int)) = some (.bl (decide (a = b))) := by
  unfold eqM eqB
  have e : sEq (.lst (a.map D.int)) (.lst (b.map D.int)) = none := rfl
  rw [e]
  simp only [okD_ints, Bool.and_self, if_true, Option.map_some, D.py, pyAll_ints, PyData.eqv, eqv_ints]
theorem allFlat_ints (a : List Int) : (a.map D.int).all flatD = true := by
  rw [List.all_map]; simp [Function.comp_def, flatD]
theorem inB_ints (x : Int) (a : List Int) : inB (.int x) (a.map D.int) = decide (x ∈ a) := by
  unfold inB
  induction a with
  | nil => rfl
  | cons y r ih =>
    rw [List.map_cons, List.any_cons, ih]
    show ((y == x) || decide (x ∈ r)) = _
    by_cases h1 : y = x
    · simp [h1]
    · have h2 : x ≠ y := fun z => h1 z.symm
      simp [h1, h2]
theorem in_ints (x : Int) (a : List Int) : inM (.int x) (.lst (a.map D.int)) = some (.bl (decide (x ∈ a))) := by
  show (if (flatD (.int x) && (a.map D.int).all flatD) = true then some (D.bl (if false = true then !inB (.int x) (a.map D.int) else inB (.int x) (a.map D.int))) else none) = _
  rw [allFlat_ints, inB_ints]
  simp [flatD]
theorem lindex_ints (x : Int) (a : List Int) : lindexM (.lst (a.map D.int)) [.int x] = (a.findIdx? fun y => y == x).map fun j => .int (j : Nat) := by
  show (if (flatD (.int x) && (a.map D.int).all flatD) = true then ((a.map D.int).findIdx? fun z => eqFD z (.int x)).map fun j => D.int (j : Nat) else none) = _
  rw [allFlat_ints]
  simp only [flatD, Bool.and_self, if_true, List.findIdx?_map]
  rfl
end MD

set_option Elab.async false
set_option linter.all false
set_option maxRecDepth 100000
set_option maxHeartbeats 1000000
namespace Lm
open PySem MD L2
theorem call_of {m : MF} {a : MA} {env : Sg} {st s1 s2 : S} {d : D} {ds : List D} (h1 : a env st = some (ds, s1)) (h2 : m ds s1 = some (d, s2)) : callM m a env st = some (d, s2) := by rw [v_callM, h1, Option.bind_some]; exact h2
theorem seq_nx {f h : MS} {env e : Sg} {st s1 : S} (hf : f env st = some (.nx e, s1)) : seqM f h env st = h e s1 := by rw [v_seqM, hf]; rfl
theorem seq_rt {f h : MS} {env : Sg} {st s1 : S} {d : D} (hf : f env st = some (.rt d, s1)) : seqM f h env st = some (.rt d, s1) := by rw [v_seqM, hf]; rfl
theorem par_nx {a : MA} {i j : Nat} {env : Sg} {st s1 : S} {d e : D} (hf : a env st = some ([d, e], s1)) : parM i j a env st = some (.nx ((env.set i (.val d)).set j (.val e)), s1) := by rw [v_parM, hf]; rfl
theorem cons_of {f : ME} {r : MA} {env : Sg} {st s1 s2 : S} {d : D} {ds : List D} (h1 : f env st = some (d, s1)) (h2 : r env s1 = some (ds, s2)) : aCons f r env st = some (d :: ds, s2) := by rw [v_aCons, h1, Option.bind_some, h2]; rfl
theorem ret_of {f : ME} {env : Sg} {st s1 : S} {d : D} (h : f env st = some (d, s1)) : retM f env st = some (.rt d, s1) := by rw [v_retM, h]; rfl
theorem run_of {n : Nat} {b : MS} {ds : List D} {st s1 : S} {d : D} (h : b (ds.map Sl.val ++ List.replicate (n - ds.length) Sl.un) st = some (.rt d, s1)) : runM n b ds st = some (d, s1) := by rw [v_runM, h]; rfl
theorem ifs_t {c : MT} {p q : MS} {env : Sg} {st s1 : S} {r : Option (Fl × S)} (hc : c env st = some (true, s1)) (hp : p env s1 = r) : ifS c p q env st = r := by rw [v_ifS, hc, Option.bind_some]; exact hp
theorem ifs_f {c : MT} {p q : MS} {env : Sg} {st s1 : S} {r : Option (Fl × S)} (hc : c env st = some (false, s1)) (hp : q env s1 = r) : ifS c p q env st = r := by rw [v_ifS, hc, Option.bind_some]; exact hp
theorem asg_nx {f : ME} {i : Nat} {env : Sg} {st s1 : S} {d : D} (hf : f env st = some (d, s1)) : asgM (nameT i) f env st = some (.nx (env.set i (.val d)), s1) := by rw [v_asgM, hf]; rfl
theorem own_nx {a : MA} {i : Nat} {env : Sg} {st s1 : S} {ds : List D} (hf : a env st = some (ds, s1)) : ownM i a env st = some (.nx (env.set i (.own (.lst, ds))), s1) := by rw [v_ownM, hf]; rfl
theorem tst_of {f : ME} {env : Sg} {st s1 : S} {b : Bool} (h : f env st = some (.bl b, s1)) : tstM f env st = some (b, s1) := by rw [v_tstM, h]; rfl
theorem add_tup {f h : ME} {env : Sg} {st s1 s2 : S} {xs ys : List D} (h1 : f env st = some (.tup xs, s1)) (h2 : h env s1 = some (.tup ys, s2)) (hl : xs.length + ys.length ≤ 1000000) : opM addM f h env st = some (.tup (xs ++ ys), s2) := by
  rw [v_opM, h1, Option.bind_some, h2, Option.bind_some, dr_tup, dr_tup, v_addT, grd_of hl]; rfl
theorem tup1 {f : ME} {env : Sg} {st s1 : S} {d : D} (h : f env st = some (d, s1)) : tupM (aCons f aNil) env st = some (.tup [d], s1) := by
  rw [v_tupM, cons_of h v_aNil, Option.bind_some]
  exact grd_of (show 1 ≤ 1000000 by decide)
theorem add_lst {f h : ME} {env : Sg} {st s1 s2 : S} {xs ys : List D} (h1 : f env st = some (.lst xs, s1)) (h2 : h env s1 = some (.lst ys, s2)) (hl : xs.length + ys.length ≤ 1000000) : opM addM f h env st = some (.lst (xs ++ ys), s2) := by
  rw [v_opM, h1, Option.bind_some, h2, Option.bind_some, dr_lst, dr_lst, v_addL, grd_of hl]; rfl
theorem lst_of {a : MA} {env : Sg} {st s1 : S} {ds : List D} (h : a env st = some (ds, s1)) (hl : ds.length ≤ 1000000) : frz (lstM a) env st = some (.lst ds, s1) := by
  rw [v_frz, v_lstM, h, Option.bind_some, grd_of hl]; rfl
theorem for_of {f : ME} {i : Nat} {b : MS} {env : Sg} {st s1 : S} {ds : List D} {r : Option (Fl × S)} (h1 : f env st = some (.lst ds, s1)) (h2 : forL (nameT i) b ds env s1 = r) : forM (seqI f) (nameT i) b env st = r := by
  rw [v_forM, v_seqI, h1]; exact h2
/-! evaluation of the new mirrors -/
section
variable {env : Sg} {st : S}
@[simp] theorem v_fldM {cs : List Str} {f : Str} {fo : ME} : fldM cs f fo env st = (fo env st).bind fun p => (refOf p.1).bind fun n => (insAt cs p.2 n).bind fun z => (lookF z.2.1 z.2.2 f).map fun d => (d, p.2) := (rfl)
@[simp] theorem v_setM {cs : List Str} {f : Str} {fo fv : ME} : setM cs f fo fv env st = (fv env st).bind fun p => (fo env p.2).bind fun o => (refOf o.1).bind fun n => (insAt cs o.2 n).bind fun z => if z.2.1.length < 1000 then some (.nx env, o.2.put n (.ins z.1 (putFN z.2.1 f) (putFV z.2.1 z.2.2 f p.1))) else none := (rfl)
@[simp] theorem v_revM {f : ME} : revM f env st = (f env st).bind fun p => match dr p.2 p.1 with | .lst ds => some (ds.reverse, p.2) | _ => none := (rfl)
theorem fld_of {c f : Str} {fo : ME} {s1 : S} {n : Nat} {fs : List Str} {xs : List D} {d : D} (h : fo env st = some (.ref n, s1)) (hn : s1.ob[n]? = some (.ins c fs xs)) (hl : lookF fs xs f = some d) : fldM [c] f fo env st = some (d, s1) := by
  rw [v_fldM, h]
  show (insAt [c] s1 n).bind _ = _
  unfold insAt
  rw [hn]
  simp [hl]
theorem set_of {c f : Str} {fo fv : ME} {s1 s2 : S} {n : Nat} {fs : List Str} {xs : List D} {d : D} (hv : fv env st = some (d, s1)) (h : fo env s1 = some (.ref n, s2)) (hn : s2.ob[n]? = some (.ins c fs xs)) (hl : fs.length < 1000) : setM [c] f fo fv env st = some (.nx env, s2.put n (.ins c (putFN fs f) (putFV fs xs f d))) := by
  rw [v_setM, hv]
  show (fo env s1).bind _ = _
  rw [h]
  show (insAt [c] s2 n).bind _ = _
  unfold insAt
  rw [hn]
  simp [hl]
theorem meth_of {c m : Str} {mf : MF} {fo : ME} {a : MA} {s1 s2 : S} {n : Nat} {fs : List Str} {xs ds : List D} {r : Option (D × S)} (h : fo env st = some (.ref n, s1)) (hn : s1.ob[n]? = some (.ins c fs xs)) (hm : m ∉ fs) (ha : a env s1 = some (ds, s2)) (hf : mf (.ref n :: ds) s2 = r) : methM c m mf fo a env st = r := by
  show ((fo env st).bind fun p => (refOf p.1).bind fun n => (insAt [c] p.2 n).bind fun z => if m ∉ z.2.1 then (a env p.2).bind fun q => mf (p.1 :: q.1) q.2 else none) = r
  rw [h]
  show (insAt [c] s1 n).bind _ = _
  unfold insAt
  rw [hn]
  simp [hm, ha, hf]
theorem make_of {c : Str} {mf : MF} {a : MA} {s1 s2 : S} {ds : List D} (ha : a env st = some (ds, s1)) (hf : mf (.ref s1.ob.length :: ds) (s1.ad (.ins c [] [])) = some (.non, s2)) : makeM c mf a env st = some (.ref s1.ob.length, s2) := by
  show ((a env st).bind fun p => (mf (.ref p.2.ob.length :: p.1) (p.2.ad (.ins c [] []))).bind fun q => match q.1 with | .non => some (D.ref p.2.ob.length, q.2) | _ => none) = _
  rw [ha]
  show (mf (.ref s1.ob.length :: ds) (s1.ad (.ins c [] []))).bind _ = _
  rw [hf]
  rfl
end
theorem r3_of {a : MA} {env : Sg} {st s1 : S} {i : Nat} (hi : i ≤ 1000000) (h : a env st = some ([.int ((i : Int) - 1), .int (-1), .int (-1)], s1)) : r3M a env st = some ((List.range i).map fun k => D.int ((i : Int) - 1 - (k : Nat)), s1) := by
  show ((a env st).bind fun p => match p.1 with | [.int i, .int j, .int c] => if c = -1 ∧ -(2 ^ 62) ≤ i ∧ i < 2 ^ 62 ∧ -(2 ^ 62) ≤ j ∧ j < 2 ^ 62 then some (dnD i (i - j).toNat, p.2) else none | _ => none) = _
  rw [h]
  show (if (-1 : Int) = -1 ∧ -(2 ^ 62) ≤ (i : Int) - 1 ∧ (i : Int) - 1 < 2 ^ 62 ∧ -(2 ^ 62) ≤ (-1 : Int) ∧ (-1 : Int) < 2 ^ 62 then some (dnD ((i : Int) - 1) ((i : Int) - 1 - -1).toNat, s1) else none) = _
  rw [if_pos (by refine ⟨rfl, ?_, ?_, by decide, by decide⟩ <;> omega)]
  have : ((i : Int) - 1 - -1).toNat = i := by omega
  rw [this]
  unfold dnD
  congr 3
  funext k
  congr 1
  omega
end Lm

set_option Elab.async false
set_option linter.all false
set_option maxRecDepth 100000
set_option maxHeartbeats 1000000
namespace MD
open PySem L2
variable {ww : WW}

/-! ### what a drawn value is, and how many draws it takes -/
def Yes {α : Type} (c : Nat) (o : S → Option (α × S)) (P : α → Prop) : Prop :=
  ∀ st : S, 0 ≤ st.n → st.n + (c : Int) ≤ nMax → ∃ a st', o st = some (a, st') ∧ P a ∧ st.n ≤ st'.n ∧ st'.n ≤ st.n + (c : Int)
section
variable {α β : Type} {c c' : Nat} {P Q : α → Prop}
theorem Yes.pure {a : α} (h : P a) : Yes 0 (fun st => some (a, st)) P := fun st h0 h1 => ⟨a, st, rfl, h, Int.le_refl _, by simp⟩
theorem Yes.of_eq {o : S → Option (α × S)} {a : α} (e : ∀ st, o st = some (a, st)) (h : P a) : Yes 0 o P := fun st h0 h1 => ⟨a, st, e st, h, Int.le_refl _, by simp⟩
theorem Yes.mono {o : S → Option (α × S)} (h : Yes c o P) (hc : c ≤ c') (hp : ∀ a, P a → Q a) : Yes c' o Q := fun st h0 h1 => by
  obtain ⟨a, st', e, p, l1, l2⟩ := h st h0 (by omega)
  exact ⟨a, st', e, hp a p, l1, by omega⟩
theorem Yes.bind {o : S → Option (α × S)} {g : α × S → Option (β × S)} {R : β → Prop} (h : Yes c o P) (hg : ∀ a, P a → Yes c' (fun st => g (a, st)) R) : Yes (c + c') (fun st => (o st).bind g) R := fun st h0 h1 => by
  obtain ⟨a, s1, e, p, l1, l2⟩ := h st h0 (by omega)
  obtain ⟨b, s2, e2, r, l3, l4⟩ := hg a p s1 (by omega) (by omega)
  exact ⟨b, s2, by show (o st).bind g = _; rw [e]; exact e2, r, by omega, by omega⟩
theorem Yes.map {o : S → Option (α × S)} {g : α × S → β × S} {R : β → Prop} {k : α → β} (h : Yes c o P) (hk : ∀ a st, g (a, st) = (k a, st)) (hg : ∀ a, P a → R (k a)) : Yes c (fun st => (o st).map g) R := fun st h0 h1 => by
  obtain ⟨a, s1, e, p, l1, l2⟩ := h st h0 h1
  exact ⟨k a, s1, by show (o st).map g = _; rw [e]; show some (g (a, s1)) = _; rw [hk], hg a p, l1, l2⟩
theorem Yes.congr {o o' : S → Option (α × S)} (h : Yes c o P) (e : ∀ st, o' st = o st) : Yes c o' P := fun st h0 h1 => by
  rw [e st]; exact h st h0 h1
end
theorem drawT_n (many : Int) (st : S) : (drawT many st).n = st.n + 1 := by unfold drawT; split <;> rfl
theorem drawV_lt {c : DC} {many : Int} (h : 0 < many) (st : S) : 0 ≤ drawV c many st ∧ drawV c many st < many := by
  unfold drawV
  split <;> exact ⟨Int.emod_nonneg _ (by omega), Int.emod_lt_of_pos _ h⟩
theorem draw_yes {c : DC} {many : Int} (h1 : 0 < many) (h2 : many < 1073741824) : Yes 1 (drawM c [.deck, .int many]) fun d => ∃ r : Int, d = .int r ∧ 0 ≤ r ∧ r < many := fun st h0 hn => by
  have := drawV_lt (c := c) h1 st
  refine ⟨_, drawT many st, ?_, ⟨_, rfl, this.1, this.2⟩, ?_, ?_⟩
  · unfold drawM
    exact if_pos ⟨h1, h2, h0, by omega⟩
  · rw [drawT_n]; omega
  · rw [drawT_n]; omega

/-! ### comprehensions and loops -/
theorem compL_pure {t : MG} {c : MT} {f : ME} {env : Sg} {st : S} (P : D → Bool) (g : D → D) : ∀ (ds : List D), (∀ d ∈ ds, ∃ e, t d env = some e ∧ c e st = some (P d, st) ∧ (P d = true → f e st = some (g d, st))) →
    compL t c f env ds st = some ((ds.filter P).map g, st)
  | [], _ => rfl
  | d :: ds, h => by
    obtain ⟨e, h1, h2, h3⟩ := h d List.mem_cons_self
    have ih := compL_pure P g ds fun x hx => h x (List.mem_cons_of_mem _ hx)
    rw [v_compL, h1]
    simp only [Option.bind_some, h2]
    cases hp : P d with
    | true => simp [h3 hp, ih, hp]
    | false => simp [ih, hp]
theorem compL_map {t : MG} {f : ME} {env : Sg} {st : S} (g : D → D) (ds : List D) (h : ∀ d ∈ ds, ∃ e, t d env = some e ∧ f e st = some (g d, st)) : compL t yesM f env ds st = some (ds.map g, st) := by
  have := compL_pure (t := t) (c := yesM) (f := f) (env := env) (st := st) (fun _ => true) g ds fun d hd => by
    obtain ⟨e, h1, h2⟩ := h d hd
    exact ⟨e, h1, rfl, fun _ => h2⟩
  rw [this]
  congr 2
  rw [List.filter_eq_self.mpr (by simp)]
theorem compL_yes {t : MG} {f : ME} {env : Sg} {k : Nat} {P : D → Prop} : ∀ (ds : List D), (∀ d ∈ ds, ∃ e, t d env = some e ∧ Yes k (f e) P) → Yes (ds.length * k) (compL t yesM f env ds) fun l => l.length = ds.length ∧ ∀ x ∈ l, P x
  | [], _ => (Yes.of_eq (fun _ => rfl) ⟨rfl, fun _ h => nomatch h⟩).mono (Nat.zero_le _) fun _ h => h
  | d :: ds, h => by
    obtain ⟨e, h1, h2⟩ := h d List.mem_cons_self
    have ih := compL_yes ds fun x hx => h x (List.mem_cons_of_mem _ hx)
    intro st h0 hn
    have en : ((d :: ds).length * k : Nat) = k + ds.length * k := by rw [List.length_cons, Nat.succ_mul]; omega
    rw [en] at hn ⊢
    obtain ⟨y, s1, e1, p1, l1, l2⟩ := h2 st h0 (by omega)
    obtain ⟨l, s2, e2, p2, l3, l4⟩ := ih s1 (by omega) (by omega)
    refine ⟨y :: l, s2, ?_, ⟨by simp [p2.1], fun x hx => ?_⟩, by omega, by omega⟩
    · rw [v_compL, h1]
      simp [e1, e2]
    · rcases List.mem_cons.mp hx with z | z
      · rw [z]; exact p1
      · exact p2.2 x z
/-- a loop that keeps I and always goes on -/
theorem forL_yes {t : MG} {b : MS} {k : Nat} {I : Sg → Prop} : ∀ (ds : List D) (env : Sg), I env → (∀ d ∈ ds, ∀ env, I env → ∃ e, t d env = some e ∧ Yes k (b e) fun fl => ∃ e', fl = .nx e' ∧ I e') →
    Yes (ds.length * k) (forL t b ds env) fun fl => ∃ e, fl = .nx e ∧ I e
  | [], env, hi, _ => (Yes.of_eq (fun _ => rfl) ⟨env, rfl, hi⟩).mono (Nat.zero_le _) fun _ h => h
  | d :: ds, env, hi, h => by
    obtain ⟨e, h1, h2⟩ := h d List.mem_cons_self env hi
    intro st h0 hn
    have en : ((d :: ds).length * k : Nat) = k + ds.length * k := by rw [List.length_cons, Nat.succ_mul]; omega
    rw [en] at hn ⊢
    obtain ⟨fl, s1, e1, ⟨e', rfl, i1⟩, l1, l2⟩ := h2 st h0 (by omega)
    obtain ⟨fl2, s2, e2, p2, l3, l4⟩ := forL_yes ds e' i1 (fun x hx => h x (List.mem_cons_of_mem _ hx)) s1 (by omega) (by omega)
    refine ⟨fl2, s2, ?_, p2, by omega, by omega⟩
    rw [v_forL, h1]
    simp [e1, e2]
theorem yes_seq {f h : MS} {env : Sg} {c c' : Nat} {R : Sg → Prop} {Q : Fl → Prop} (h1 : Yes c (f env) fun fl => ∃ e, fl = .nx e ∧ R e) (h2 : ∀ e, R e → Yes c' (h e) Q) : Yes (c + c') (seqM f h env) Q := by
  refine (Yes.bind h1 (g := fun x => match x.1 with | .nx e => h e x.2 | fl => some (fl, x.2)) fun fl hfl => ?_).congr fun st => rfl
  obtain ⟨e, rfl, r⟩ := hfl
  exact h2 e r
theorem yes_asg {i : Nat} {f : ME} {env : Sg} {c : Nat} {P : D → Prop} (h : Yes c (f env) P) : Yes c (asgM (nameT i) f env) fun fl => ∃ e, fl = .nx e ∧ ∃ d, P d ∧ e = env.set i (.val d) :=
  (Yes.map h (k := fun d => Fl.nx (env.set i (.val d))) (g := fun p => (Fl.nx (env.set i (.val p.1)), p.2)) (fun _ _ => rfl) fun d hd => ⟨_, rfl, d, hd, rfl⟩).congr fun st => by
    simp only [v_asgM, v_nameT, Option.map_some]
    cases f env st <;> rfl
end MD

set_option Elab.async false
set_option linter.all false
set_option maxRecDepth 100000
set_option maxHeartbeats 1000000
namespace MD
open PySem L2
variable {ww : WW}
section
variable {α : Type} (a b c d : α)
@[simp] theorem at_10 : L2.atI [a] 0 = some a := (rfl)
@[simp] theorem at_20 : L2.atI [a, b] 0 = some a := (rfl)
@[simp] theorem at_21 : L2.atI [a, b] 1 = some b := (rfl)
@[simp] theorem at_30 : L2.atI [a, b, c] 0 = some a := (rfl)
@[simp] theorem at_31 : L2.atI [a, b, c] 1 = some b := (rfl)
@[simp] theorem at_32 : L2.atI [a, b, c] 2 = some c := (rfl)
end
@[simp] theorem tru_non : truD .non = some false := (rfl)
@[simp] theorem tru_bl (b : Bool) : truD (.bl b) = some b := (rfl)
@[simp] theorem tru_int (i : Int) : truD (.int i) = some (i != 0) := (rfl)
@[simp] theorem tru_lst (ds : List D) : truD (.lst ds) = some (!ds.isEmpty) := (rfl)
@[simp] theorem tru_tup (ds : List D) : truD (.tup ds) = some (!ds.isEmpty) := (rfl)
/-! ### data that may be compared with == -/
def Nice (d : D) : Prop := d.pl = true ∧ d.py.canLay0 = true ∧ d.py.depth ≤ 20
theorem plAll_of {ds : List D} : (∀ d ∈ ds, d.pl = true) → plAll ds = true := by
  induction ds with
  | nil => intro _; rfl
  | cons x r ih =>
    intro h
    show (x.pl && plAll r) = true
    rw [h x List.mem_cons_self, ih fun y hy => h y (List.mem_cons_of_mem _ hy)]; rfl
theorem layAll_of {ds : List D} : (∀ d ∈ ds, d.py.canLay0 = true) → PyData.canLayAll0 (pyAll ds) = true := by
  induction ds with
  | nil => intro _; rfl
  | cons x r ih =>
    intro h
    show (x.py.canLay0 && PyData.canLayAll0 (pyAll r)) = true
    rw [h x List.mem_cons_self, ih fun y hy => h y (List.mem_cons_of_mem _ hy)]; rfl
theorem depAll_of {n : Nat} {ds : List D} : (∀ d ∈ ds, d.py.depth ≤ n) → PyData.depthAll (pyAll ds) ≤ n := by
  induction ds with
  | nil => intro _; exact Nat.zero_le _
  | cons x r ih =>
    intro h
    show max x.py.depth (PyData.depthAll (pyAll r)) ≤ n
    have h1 := h x List.mem_cons_self
    have h2 := ih fun y hy => h y (List.mem_cons_of_mem _ hy)
    omega
theorem Nice.okD {ds : List D} (h : ∀ d ∈ ds, Nice d) : okD (.lst ds) = true := by
  unfold MD.okD SeqAt.shaped
  have h1 : (D.lst ds).pl = true := by rw [D.pl]; exact plAll_of fun d hd => (h d hd).1
  have h2 : (D.lst ds).py.canLay0 = true := by rw [D.py, PyData.canLay0]; exact layAll_of fun d hd => (h d hd).2.1
  have h3 : (D.lst ds).py.depth ≤ 64 := by
    rw [D.py, PyData.depth]
    have := depAll_of (n := 20) fun d hd => (h d hd).2.2
    omega
  rw [h1, h2, decide_eq_true h3]; rfl
theorem Nice.int (i : Int) : Nice (.int i) := ⟨rfl, rfl, by simp [D.py, PyData.depth]⟩
theorem Nice.bl (i : Bool) : Nice (.bl i) := ⟨rfl, rfl, by simp [D.py, PyData.depth]⟩
theorem Nice.non : Nice .non := ⟨rfl, rfl, by simp [D.py, PyData.depth]⟩
theorem Nice.tup' {n : Nat} {ds : List D} (h : ∀ d ∈ ds, d.pl = true ∧ d.py.canLay0 = true ∧ d.py.depth ≤ n) : (D.tup ds).pl = true ∧ (D.tup ds).py.canLay0 = true ∧ (D.tup ds).py.depth ≤ n + 1 := by
  refine ⟨by rw [D.pl]; exact plAll_of fun d hd => (h d hd).1, by rw [D.py, PyData.canLay0]; exact layAll_of fun d hd => (h d hd).2.1, ?_⟩
  rw [D.py, PyData.depth]
  have := depAll_of (n := n) fun d hd => (h d hd).2.2
  omega
theorem ne_nil {ds : List D} (h : ∀ d ∈ ds, Nice d) : neM (.lst ds) (.lst []) = some (.bl (!ds.isEmpty)) := by
  unfold neM eqB
  have e : sEq (.lst ds) (.lst []) = none := rfl
  have h0 : MD.okD (.lst []) = true := Nice.okD fun d hd => nomatch hd
  rw [e]
  simp only [Nice.okD h, h0, Bool.and_self, if_true, Option.map_some]
  cases ds with
  | nil => rfl
  | cons x r => rfl
theorem eq_nil {ds : List D} (h : ∀ d ∈ ds, Nice d) : eqM (.lst ds) (.lst []) = some (.bl ds.isEmpty) := by
  unfold eqM eqB
  have e : sEq (.lst ds) (.lst []) = none := rfl
  have h0 : MD.okD (.lst []) = true := Nice.okD fun d hd => nomatch hd
  rw [e]
  simp only [Nice.okD h, h0, Bool.and_self, if_true, Option.map_some]
  cases ds with
  | nil => rfl
  | cons x r => rfl
theorem strOk_W {ws : List Nat} (h : ∀ c ∈ ws, c < 128) : (D.str (W ws)).py.canLay0 = true := by
  show PyData.strOk (W ws) = true
  unfold PyData.strOk
  rw [← Array.all_toList, W_list, List.all_eq_true]
  intro c hc
  have := h c hc
  exact decide_eq_true (by omega)
theorem Nice.strW {ws : List Nat} (h : ∀ c ∈ ws, c < 128) : Nice (.str (W ws)) := ⟨rfl, strOk_W h, by simp [D.py, PyData.depth]⟩
end MD

set_option Elab.async false
set_option linter.all false
set_option maxRecDepth 100000
set_option maxHeartbeats 2000000
namespace Lh
open PySem MD L2
/-! ### one thing at a time -/
variable {st s1 s2 : S} {env : Sg}
theorem sub_of {f h : ME} {x y d : D} (h1 : f env st = some (x, s1)) (h2 : h env s1 = some (y, s2)) (hx : ∀ s, dr s x = x) (hy : ∀ s, dr s y = y) (h3 : subD x y = some d) : opM subD f h env st = some (d, s2) := by
  rw [v_opM, h1, Option.bind_some, h2, Option.bind_some, hx, hy, h3]; rfl
theorem sub_tup {f h : ME} {ds : List D} {j : Int} {d : D} (h1 : f env st = some (.tup ds, s1)) (h2 : h env s1 = some (.int j, s2)) (h3 : L2.atI ds j = some d) : opM subD f h env st = some (d, s2) :=
  sub_of (x := .tup ds) (y := .int j) h1 h2 (fun s => dr_tup s ds) (fun s => rfl) (by rw [v_subT, v_ixT]; exact h3)
theorem at_tup {f : ME} {ds : List D} {j : Nat} {d : D} (h1 : f env st = some (.tup ds, s1)) (h : ds[j]? = some d) : opM subD f (cst (.int ((j : Nat) : Int))) env st = some (d, s1) :=
  sub_tup (h := cst (.int ((j : Nat) : Int))) (j := ((j : Nat) : Int)) (s2 := s1) h1 rfl (atI_of h)
theorem str_add {f h : ME} {v w : List Nat} (h1 : f env st = some (.str (W v), s1)) (h2 : h env s1 = some (.str (W w), s2)) (hl : v.length + w.length ≤ 1000000) : opM addM f h env st = some (.str (W (v ++ w)), s2) := by
  have hg : ∀ o : Option D, grd (v.length + w.length) o = o := fun o => grd_of hl
  rw [v_opM, h1, Option.bind_some, h2]
  simp [W_len, W_app, hg]
theorem int_add {f h : ME} {i j : Int} (h1 : f env st = some (.int i, s1)) (h2 : h env s1 = some (.int j, s2)) : opM addM f h env st = some (.int (i + j), s2) := by
  simp [h1, h2]
theorem gt_of {f h : ME} {i j : Int} (h1 : f env st = some (.int i, s1)) (h2 : h env s1 = some (.int j, s2)) : tstM (opM gtM f h) env st = some (decide (j < i), s2) := by
  simp [h1, h2]
theorem ge_of {f h : ME} {i j : Int} (h1 : f env st = some (.int i, s1)) (h2 : h env s1 = some (.int j, s2)) : tstM (opM geM f h) env st = some (decide (j ≤ i), s2) := by
  simp [h1, h2]
theorem lt_of {f h : ME} {i j : Int} (h1 : f env st = some (.int i, s1)) (h2 : h env s1 = some (.int j, s2)) : tstM (opM ltA f h) env st = some (decide (i < j), s2) := by
  simp [h1, h2]
theorem le_of {f h : ME} {i j : Int} (h1 : f env st = some (.int i, s1)) (h2 : h env s1 = some (.int j, s2)) : tstM (opM leM f h) env st = some (decide (i ≤ j), s2) := by
  simp [h1, h2]
theorem ne_int {f h : ME} {i j : Int} (h1 : f env st = some (.int i, s1)) (h2 : h env s1 = some (.int j, s2)) : tstM (opM neM f h) env st = some (decide (i ≠ j), s2) := by
  simp [h1, h2]
theorem eq_int {f h : ME} {i j : Int} (h1 : f env st = some (.int i, s1)) (h2 : h env s1 = some (.int j, s2)) : tstM (opM eqM f h) env st = some (decide (i = j), s2) := by
  simp [h1, h2]
theorem or_f {c d : MT} {r : Option (Bool × S)} (h : c env st = some (false, s1)) (h2 : d env s1 = r) : orM c d env st = r := by
  rw [v_orM, h, Option.bind_some]; exact h2
theorem or_t {c d : MT} (h : c env st = some (true, s1)) : orM c d env st = some (true, s1) := by
  rw [v_orM, h, Option.bind_some]; rfl
theorem and_t {c d : MT} {r : Option (Bool × S)} (h : c env st = some (true, s1)) (h2 : d env s1 = r) : andM c d env st = r := by
  rw [v_andM, h, Option.bind_some]; exact h2
theorem and_f {c d : MT} (h : c env st = some (false, s1)) : andM c d env st = some (false, s1) := by
  rw [v_andM, h, Option.bind_some]; rfl
theorem not_of {c : MT} {b : Bool} (h : c env st = some (b, s1)) : notM c env st = some (!b, s1) := by
  rw [v_notM, h]; rfl
theorem tru_of {f : ME} {b : Bool} (h : f env st = some (.bl b, s1)) : truM f env st = some (b, s1) := by
  rw [v_truM, h]; rfl
theorem len_tup {f : ME} {ds : List D} (h : f env st = some (.tup ds, s1)) (hl : ds.length ≤ 1000000) : cbM lenA (aCons f aNil) env st = some (.int (ds.length : Nat), s1) := by
  simp [h]
theorem len_str {f : ME} {w : List Nat} (h : f env st = some (.str (W w), s1)) (hl : w.length ≤ 1000000) : cbM lenA (aCons f aNil) env st = some (.int (w.length : Nat), s1) := by
  simp [h, W_len, grd_of hl]
theorem tup2 {f h : ME} {x y : D} (h1 : f env st = some (x, s1)) (h2 : h env s1 = some (y, s2)) : tupM (aCons f (aCons h aNil)) env st = some (.tup [x, y], s2) := by
  rw [v_tupM, v_aCons, h1, Option.bind_some, v_aCons, h2]
  simp [grd_of (show 2 ≤ 1000000 by decide)]
theorem r1_of {f : ME} {k : Nat} (h : f env st = some (.int ((k : Nat) : Int), s1)) (hk : k ≤ 1000000) : r1M (aCons f aNil) env st = some ((List.range k).map fun x => D.int ((x : Nat) : Int), s1) := by
  rw [v_r1M, Lm.cons_of (s1 := s1) h v_aNil, Option.bind_some]
  show (rng1 [.int ((k : Nat) : Int)]).map _ = _
  rw [rng1_of (by omega) (by omega)]
  simp [rngD]
theorem augI {f : ME} {n : Nat} {i j : Int} (h1 : f env st = some (.int j, s1)) (h2 : env[n]? = some (.val (.int i))) : augM n (iI fun i j => .int (i + j)) f env st = some (.nx (env.set n (.val (.int (i + j)))), s1) := by
  simp [h1, h2]
theorem whS {c : MT} {b : MS} {m : Nat} {e1 : Sg} (hc : c env st = some (true, s1)) (hb : b env s1 = some (.nx e1, s2)) : whF c b (m + 1) env st = whF c b m e1 s2 := by
  rw [whF, hc]
  show (b env s1).bind _ = _
  rw [hb]; rfl
theorem whE {c : MT} {b : MS} {m : Nat} (hc : c env st = some (false, s1)) : whF c b (m + 1) env st = some (.nx env, s1) := by
  rw [whF, hc]; rfl
theorem asgT2 {f : ME} {i j : Nat} {x y : D} (h : f env st = some (.tup [x, y], s1)) : asgM (tupT 2 (consT (nameT i) (consT (nameT j) nilT))) f env st = some (.nx ((env.set i (.val x)).set j (.val y)), s1) := by
  rw [v_asgM, h]; rfl
theorem nice_okD {d : D} (h : Nice d) : MD.okD d = true := by
  unfold MD.okD SeqAt.shaped
  rw [h.1, h.2.1, decide_eq_true (show d.py.depth ≤ 64 by have := h.2.2; omega)]; rfl
theorem eqN_of {d e : D} (hd : Nice d) (he : Nice e) (hs : sEq d e = none) : eqM d e = some (.bl (PyData.eqv d.py e.py)) := by
  unfold eqM eqB
  rw [hs]
  simp only [nice_okD hd, nice_okD he, Bool.and_self, if_true, Option.map_some]
theorem neN_of {d e : D} (hd : Nice d) (he : Nice e) (hs : sEq d e = none) : neM d e = some (.bl (!PyData.eqv d.py e.py)) := by
  unfold neM eqB
  rw [hs]
  simp only [nice_okD hd, nice_okD he, Bool.and_self, if_true, Option.map_some]
/-- nice and at most so deep -/
def Nd (n : Nat) (d : D) : Prop := d.pl = true ∧ d.py.canLay0 = true ∧ d.py.depth ≤ n
theorem Nd.nice {n : Nat} {d : D} (h : Nd n d) (hn : n ≤ 20) : Nice d := ⟨h.1, h.2.1, Nat.le_trans h.2.2 hn⟩
theorem Nd.le {n m : Nat} {d : D} (h : Nd n d) (hn : n ≤ m) : Nd m d := ⟨h.1, h.2.1, Nat.le_trans h.2.2 hn⟩
theorem Nd.int (i : Int) : Nd 0 (.int i) := ⟨rfl, rfl, by simp [D.py, PyData.depth]⟩
theorem Nd.bl (i : Bool) : Nd 0 (.bl i) := ⟨rfl, rfl, by simp [D.py, PyData.depth]⟩
theorem Nd.non : Nd 0 .non := ⟨rfl, rfl, by simp [D.py, PyData.depth]⟩
theorem Nd.strW {w : List Nat} (h : ∀ c ∈ w, c < 128) : Nd 0 (.str (W w)) := ⟨rfl, strOk_W h, by simp [D.py, PyData.depth]⟩
theorem Nd.tup {n : Nat} {ds : List D} (h : ∀ d ∈ ds, Nd n d) : Nd (n + 1) (.tup ds) := Nice.tup' h
theorem Nd.tup2 {n : Nat} {x y : D} (hx : Nd n x) (hy : Nd n y) : Nd (n + 1) (.tup [x, y]) := Nd.tup fun d hd => by
  simp only [List.mem_cons, List.mem_nil_iff, or_false] at hd
  rcases hd with rfl | rfl
  · exact hx
  · exact hy
theorem Nd.tup3 {n : Nat} {x y z : D} (hx : Nd n x) (hy : Nd n y) (hz : Nd n z) : Nd (n + 1) (.tup [x, y, z]) := Nd.tup fun d hd => by
  simp only [List.mem_cons, List.mem_nil_iff, or_false] at hd
  rcases hd with rfl | rfl | rfl
  · exact hx
  · exact hy
  · exact hz
theorem Nd.lst {n : Nat} {ds : List D} (h : ∀ d ∈ ds, Nd n d) : Nd (n + 1) (.lst ds) := by
  refine ⟨by rw [D.pl]; exact plAll_of fun d hd => (h d hd).1, by rw [D.py, PyData.canLay0]; exact layAll_of fun d hd => (h d hd).2.1, ?_⟩
  rw [D.py, PyData.depth]
  have := depAll_of (n := n) fun d hd => (h d hd).2.2
  omega
theorem Nd.lst2 {n : Nat} {x y : D} (hx : Nd n x) (hy : Nd n y) : Nd (n + 1) (.lst [x, y]) := Nd.lst fun d hd => by
  simp only [List.mem_cons, List.mem_nil_iff, or_false] at hd
  rcases hd with rfl | rfl
  · exact hx
  · exact hy
end Lh

set_option Elab.async false
set_option linter.all false
set_option maxRecDepth 100000
set_option maxHeartbeats 1000000
namespace Lc
open PySem MD L2
variable {ww : WW}
/-! ### lists, texts, one thing at a time -/
abbrev nD (n : Nat) : D := .int ((n : Nat) : Int)
theorem cutW_to' {ws : List Nat} {n : Nat} : cutS (W ws) none (some ((n : Nat) : Int)) = W (ws.take n) := by
  unfold cutS
  rw [W_list, W_len, HT.sIx_none, HT.sIx_nat]
  show (⟨((ws.drop 0).take (min n ws.length - 0)).toArray⟩ : Str) = _
  rw [List.drop_zero, Nat.sub_zero]
  have : ws.take (min n ws.length) = ws.take n := by
    by_cases h : n ≤ ws.length
    · rw [Nat.min_eq_left h]
    · rw [Nat.min_eq_right (by omega), List.take_of_length_le (Nat.le_refl _), List.take_of_length_le (by omega)]
  rw [this]
  rfl
theorem forM_of' {it : MI} {t : MG} {b : MS} {env : Sg} {st : S} {ds : List D} {r : Option (Fl × S)} (h : it env st = some (ds, st)) (e : forL t b ds env st = r) : forM it t b env st = r := by
  rw [v_forM, h]
  exact e
theorem sl_to {f h : ME} {env : Sg} {st s1 s2 : S} {w : List Nat} {p : Nat} (h1 : f env st = some (.str (W w), s1)) (h2 : h env s1 = some (nD p, s2)) (hz : w.length ≤ 1000000) : slM slAny f noP (prt h) env st = some (.str (W (w.take p)), s2) := by
  have e2 : prt h env s1 = some (some ((p : Nat) : Int), s2) := by
    unfold prt
    rw [h2]; rfl
  rw [v_slM, h1, Option.bind_some]
  show ((noP env s1).bind _) = _
  show ((prt h env s1).bind _) = _
  rw [e2, Option.bind_some]
  show ((slAny (dr s2 (.str (W w))) none (some ((p : Nat) : Int))).map _) = _
  rw [dr_str, v_slS, grd_of (by rw [W_len]; exact hz), cutW_to']; rfl
theorem compL_list {α : Type} {t : MG} {c : MT} {f : ME} {env : Sg} {st : S} {F : α → D} {G : α → D} {q : α → Bool} {en : α → Sg} : ∀ (l : List α), (∀ a ∈ l, t (F a) env = some (en a) ∧ c (en a) st = some (q a, st) ∧ f (en a) st = some (G a, st)) → compL t c f env (l.map F) st = some ((l.filter q).map G, st)
  | [], _ => rfl
  | a :: l, h => by
    obtain ⟨h1, h2, h3⟩ := h a List.mem_cons_self
    have ih := compL_list l fun b hb => h b (List.mem_cons_of_mem _ hb)
    show ((t (F a) env).bind fun e => (c e st).bind fun p => if p.1 then (f e p.2).bind fun q => (compL t c f env (l.map F) q.2).map fun r => (q.1 :: r.1, r.2) else compL t c f env (l.map F) p.2) = _
    rw [h1, Option.bind_some, h2, Option.bind_some]
    cases hq : q a with
    | true =>
      rw [List.filter_cons_of_pos hq]
      show ((f (en a) st).bind fun q => (compL t c f env (l.map F) q.2).map fun r => (q.1 :: r.1, r.2)) = _
      rw [h3, Option.bind_some, ih]; rfl
    | false =>
      rw [List.filter_cons_of_neg (by rw [hq]; decide)]
      exact ih
/-- texts joined -/
theorem join_Ws (s : List Nat) (ps : List (List Nat)) : Txt.join (W s) (ps.map W) = W (TL.joinL s ps) := by
  apply TL.ext_tl
  rw [TL.join_eq, TL.tl_join]
  show TL.joinL (W s).cps.toList ((ps.map W).map fun x => x.cps.toList) = (W (TL.joinL s ps)).cps.toList
  rw [W_list, W_list, List.map_map]
  have e : ((fun (x : Str) => x.cps.toList) ∘ W) = id := by funext x; simp
  rw [e, List.map_id]
theorem split_Ws {c : Nat} (hc : c < 256) {ps : List (List Nat)} (hne : ps ≠ []) (h : ∀ p ∈ ps, c ∉ p) : Txt.split (W (TL.joinL [c] ps)) (W [c]) = ps.map W := by
  rw [← join_Ws]
  refine TL.split_join (s := c) (S := []) (by show (W [c]).cps.toList = _; rw [W_list]) ?_ (by simpa using hne) fun p hp => ?_
  · rw [← Array.all_toList, W_list]
    simpa using hc
  · obtain ⟨q, hq, rfl⟩ := List.mem_map.mp hp
    show c ∉ (W q).cps.toList
    rw [W_list]
    exact h q hq
theorem lenW_sum (ps : List (List Nat)) : ((ps.map W).map (·.length)).sum = (ps.map List.length).sum := by
  rw [List.map_map]
  congr 1
/-- sep.join(texts) -/
theorem join_of {f h : ME} {env : Sg} {st s1 s2 : S} {s : List Nat} {ps : List (List Nat)} (h1 : f env st = some (.str (W s), s1)) (h2 : h env s1 = some (.lst (ps.map fun p => D.str (W p)), s2)) (hl : (ps.map List.length).sum + ps.length * s.length ≤ 16000000) :
    m1M joinM f h env st = some (.str (W (TL.joinL s ps)), s2) := by
  have e : (ps.map fun p => D.str (W p)) = (ps.map W).map D.str := by rw [List.map_map]; rfl
  rw [v_m1M, h1, Option.bind_some]
  show ((h env s1).bind _) = _
  rw [h2, Option.bind_some]
  show ((joinM (dr s2 (.str (W s))) [dr s2 (.lst (ps.map fun p => D.str (W p)))]).map _) = _
  rw [dr_str, dr_lst, e]
  show (((strsOf ((ps.map W).map D.str)).bind fun ys => if (ys.map (·.length)).sum + ys.length * (W s).length ≤ 16777216 then some (D.str (Txt.join (W s) ys)) else none).map _) = _
  rw [strsOf_map]
  show ((if ((ps.map W).map (·.length)).sum + (ps.map W).length * (W s).length ≤ 16777216 then some (D.str (Txt.join (W s) (ps.map W))) else none).map _) = _
  rw [if_pos (by rw [lenW_sum, List.length_map, W_len]; omega), join_Ws]; rfl
theorem spl_of {f h : ME} {env : Sg} {st s1 s2 : S} {c : Nat} {ps : List (List Nat)} (hc : c < 256) (hne : ps ≠ []) (hp : ∀ p ∈ ps, c ∉ p) (h1 : f env st = some (.str (W (TL.joinL [c] ps)), s1)) (h2 : h env s1 = some (.str (W [c]), s2)) (hl : (TL.joinL [c] ps).length ≤ 900000) :
    frz (splM f h) env st = some (.lst (ps.map fun p => D.str (W p)), s2) := by
  have e : (ps.map fun p => D.str (W p)) = (ps.map W).map D.str := by rw [List.map_map]; rfl
  rw [v_frz]
  unfold splM
  rw [h1, Option.bind_some]
  show (((h env s1).bind _).map _) = _
  rw [h2, Option.bind_some]
  show ((if ((W [c]).length == 0) = false ∧ (W (TL.joinL [c] ps)).length + 2 ≤ sizeLine then some ((Txt.split (W (TL.joinL [c] ps)) (W [c])).map D.str, s2) else none).map _) = _
  rw [if_pos ⟨by rw [W_len]; rfl, by rw [W_len]; exact Nat.le_trans (show _ ≤ 900002 by omega) (by decide)⟩, split_Ws hc hne hp, e]; rfl
/-- a number's text -/
theorem str_num (n : Nat) : (Str.ofString (toString ((n : Nat) : Int)) : Str) = W (TL.numL n) := by
  apply TL.ext_tl
  show TL.tl _ = (W (TL.numL n)).cps.toList
  rw [W_list]
  exact TL.tl_num n
theorem strInt_of {f : ME} {env : Sg} {st s1 : S} {n : Nat} (h : f env st = some (nD n, s1)) (hn : n ≤ 1000) : cbM strIntM (aCons f aNil) env st = some (.str (W (TL.numL n)), s1) := by
  have e : strIntM [nD n] = some (.str (W (TL.numL n))) := by
    show (if (((n : Nat) : Int)).natAbs.log2 < 1920 then some (D.str (toString ((n : Nat) : Int))) else none) = _
    rw [if_pos]
    · show some (D.str (Str.ofString (toString ((n : Nat) : Int)))) = _
      rw [str_num]
    · rw [Int.natAbs_natCast]
      by_cases h0 : n = 0
      · rw [h0]; decide
      · rw [Nat.log2_lt h0]
        exact Nat.lt_of_le_of_lt hn (Nat.lt_of_lt_of_le (show 1000 < 2 ^ 10 by decide) (Nat.pow_le_pow_right (by decide) (by decide)))
  rw [v_cbM, Lm.cons_of h v_aNil, Option.bind_some]
  show ((strIntM [nD n]).map _ : Option (D × S)) = _
  rw [e]; rfl
theorem intS_of {f : ME} {env : Sg} {st s1 : S} {n : Nat} (h : f env st = some (.str (W (TL.numL n)), s1)) (hn : n < 10 ^ 9) : cbM intSM (aCons f aNil) env st = some (nD n, s1) := by
  have hl := TL.numL_len (n := n) (k := 9) (by decide) hn
  have e : intSM [.str (W (TL.numL n))] = some (nD n) := by
    show (if (W (TL.numL n)).length ≤ 640 then (PySem.intText? (W (TL.numL n))).map D.int else none) = _
    rw [if_pos (by rw [W_len]; omega), ← str_num, TL.int_num (by omega)]; rfl
  rw [v_cbM, Lm.cons_of h v_aNil, Option.bind_some]
  show ((intSM [.str (W (TL.numL n))]).map _ : Option (D × S)) = _
  rw [e]; rfl
/-! comprehensions that change nothing -/
section
variable {α : Type} {it : MI} {t : MG} {c : MT} {f : ME} {env env1 : Sg} {st : S} {F G : α → D} {q : α → Bool} {en : α → Sg} {vs : List Nat} {l : List α}
theorem comp_fil (hi : it env st = some (l.map F, st)) (hl : l.length ≤ 900000) (hw : wipeE env vs = env1) (h : ∀ a ∈ l, t (F a) env1 = some (en a) ∧ c (en a) st = some (q a, st) ∧ f (en a) st = some (G a, st)) : frz (compM it t c f vs) env st = some (.lst ((l.filter q).map G), st) := by
  rw [v_frz, v_compM, hi, Option.bind_some]
  show (grd (l.map F).length (compL t c f (wipeE env vs) (l.map F) st)).map _ = _
  rw [grd_of (by rw [List.length_map]; omega), hw, compL_list l h]; rfl
theorem comp_map (hi : it env st = some (l.map F, st)) (hl : l.length ≤ 900000) (hw : wipeE env vs = env1) (h : ∀ a ∈ l, t (F a) env1 = some (en a) ∧ f (en a) st = some (G a, st)) : frz (compM it t yesM f vs) env st = some (.lst (l.map G), st) := by
  have := comp_fil (c := yesM) (q := fun _ => true) hi hl hw fun a ha => ⟨(h a ha).1, rfl, (h a ha).2⟩
  rw [List.filter_eq_self.mpr (by simp)] at this
  exact this
end
theorem mul_of {f h : ME} {env : Sg} {st s1 s2 : S} {ds es : List D} {i : Int} (h1 : f env st = some (.lst ds, s1)) (h2 : h env s1 = some (.int i, s2)) (h3 : lstMul (.lst ds) (.int i) = some es) : frz (opF lstMul f h) env st = some (.lst es, s2) := by
  rw [v_frz]
  unfold opF
  rw [h1, Option.bind_some]
  show (((h env s1).bind _).map _) = _
  rw [h2, Option.bind_some]
  show (((lstMul (dr s2 (.lst ds)) (dr s2 (.int i))).map fun z => (z, s2)).map _) = _
  rw [dr_lst]
  show (((lstMul (.lst ds) (.int i)).map fun z => (z, s2)).map _) = _
  rw [h3]; rfl
theorem if_t {c : MT} {f h : ME} {env : Sg} {st s1 : S} {r : Option (D × S)} (hc : c env st = some (true, s1)) (hf : f env s1 = r) : ifM c f h env st = r := by rw [v_ifM, hc, Option.bind_some]; exact hf
theorem if_f {c : MT} {f h : ME} {env : Sg} {st s1 : S} {r : Option (D × S)} (hc : c env st = some (false, s1)) (hf : h env s1 = r) : ifM c f h env st = r := by rw [v_ifM, hc, Option.bind_some]; exact hf
theorem is_of {f : ME} {env : Sg} {st s1 : S} {d : D} (hf : f env st = some (d, s1)) (hd : dr s1 d = d) : tstM (opM isM f (cst .non)) env st = some (nonD d, s1) := by
  rw [v_tstM, v_opM, hf, Option.bind_some]
  show ((isM (dr s1 d) (dr s1 .non)).map fun z => (z, s1)).bind _ = _
  rw [hd]; rfl
theorem isnot_of {f : ME} {env : Sg} {st s1 : S} {d : D} (hf : f env st = some (d, s1)) (hd : dr s1 d = d) : tstM (opM isNotM f (cst .non)) env st = some (!nonD d, s1) := by
  rw [v_tstM, v_opM, hf, Option.bind_some]
  show ((isNotM (dr s1 d) (dr s1 .non)).map fun z => (z, s1)).bind _ = _
  rw [hd]; rfl
theorem zip_of {f h : ME} {env : Sg} {st s1 s2 : S} {xs ys : List D} (h1 : f env st = some (.tup xs, s1)) (h2 : h env s1 = some (.tup ys, s2)) : zipI f h env st = some (zipD xs ys, s2) := by
  unfold zipI
  rw [h1, Option.bind_some]
  show ((h env s1).bind _) = _
  rw [h2]; rfl
theorem zipD_map {α β : Type} (F : α → D) (G : β → D) : ∀ (xs : List α) (ys : List β), zipD (xs.map F) (ys.map G) = (xs.zip ys).map fun z => D.tup [F z.1, G z.2]
  | [], _ => by cases ‹List β› <;> rfl
  | _ :: _, [] => rfl
  | x :: xs, y :: ys => by
    have ih := zipD_map F G xs ys
    show D.tup [F x, G y] :: zipD (xs.map F) (ys.map G) = _
    rw [ih]; rfl
/-- strings -/
theorem eq_W {f h : ME} {env : Sg} {st s1 s2 : S} {a b : List Nat} (h1 : f env st = some (.str (W a), s1)) (h2 : h env s1 = some (.str (W b), s2)) : opM eqM f h env st = some (.bl (decide (a = b)), s2) := by
  have e : decide ((W a) = (W b)) = decide (a = b) := by
    by_cases h : a = b
    · rw [decide_eq_true h, decide_eq_true (by rw [h])]
    · rw [decide_eq_false h, decide_eq_false fun e => h (W_inj e)]
  rw [v_opM, h1, Option.bind_some, h2, Option.bind_some, dr_str, dr_str, MD.eq_str, e]; rfl
theorem ne_W {f h : ME} {env : Sg} {st s1 s2 : S} {a b : List Nat} (h1 : f env st = some (.str (W a), s1)) (h2 : h env s1 = some (.str (W b), s2)) : opM neM f h env st = some (.bl (!decide (a = b)), s2) := by
  have e : decide ((W a) = (W b)) = decide (a = b) := by
    by_cases h : a = b
    · rw [decide_eq_true h, decide_eq_true (by rw [h])]
    · rw [decide_eq_false h, decide_eq_false fun e => h (W_inj e)]
  rw [v_opM, h1, Option.bind_some, h2, Option.bind_some, dr_str, dr_str, MD.ne_str]
  simp only [Option.map_some]
  have e2 : decide (W a ≠ W b) = !decide (a = b) := by rw [← e]; simp
  first | rw [e2] | rw [e] | skip
end Lc

set_option Elab.async false
set_option linter.all false
set_option maxRecDepth 100000
set_option maxHeartbeats 1000000
namespace Lw
open PySem MD L2 Lc
/-! ### data, empty dicts among them, that can be shown -/
structure G0 (d : D) (n : Nat) : Prop where
  ql : d.ql = true
  sh : d.qy.showable = true
  dp : d.qy.depth ≤ n
  lf : d.qy.leavesShort 50 = true
def bk (d : D) : Nat := d.qy.bulk
def bks' (ds : List D) : Nat := (ds.map fun d => bk d + 1).sum
structure Gd (d : D) (n b : Nat) : Prop where
  g : G0 d n
  k : bk d ≤ b
structure Gds (ds : List D) (n b : Nat) : Prop where
  g : ∀ d ∈ ds, G0 d n
  k : bks' ds ≤ b
theorem G0.mono {d : D} {n n' : Nat} (h : G0 d n) (hn : n ≤ n') : G0 d n' := ⟨h.ql, h.sh, Nat.le_trans h.dp hn, h.lf⟩
theorem Gd.mono {d : D} {n b n' b' : Nat} (h : Gd d n b) (hn : n ≤ n') (hb : b ≤ b') : Gd d n' b' := ⟨h.g.mono hn, Nat.le_trans h.k hb⟩
theorem Gds.mono {d : List D} {n b n' b' : Nat} (h : Gds d n b) (hn : n ≤ n') (hb : b ≤ b') : Gds d n' b' := ⟨fun x hx => (h.g x hx).mono hn, Nat.le_trans h.k hb⟩
theorem Gd.non : Gd .non 0 0 := ⟨⟨rfl, by simp [D.qy, PyData.showable], by simp [D.qy, PyData.depth], by simp [D.qy, PyData.leavesShort]⟩, by simp [bk, D.qy, PyData.bulk]⟩
theorem Gd.bl (c : Bool) : Gd (.bl c) 0 0 := ⟨⟨rfl, by simp [D.qy, PyData.showable], by simp [D.qy, PyData.depth], by simp [D.qy, PyData.leavesShort]⟩, by simp [bk, D.qy, PyData.bulk]⟩
theorem Gd.dic : Gd (.dic [] []) 1 0 := ⟨⟨rfl, by simp [D.qy, PyData.showable, PyData.showableKv], by simp [D.qy, PyData.depth, PyData.depthKv], by simp [D.qy, PyData.leavesShort, PyData.leavesShortKv]⟩, by simp [bk, D.qy, PyData.bulk, PyData.bulkKv]⟩
theorem Gd.int {i : Int} (h : i.natAbs < 10 ^ 44) : Gd (.int i) 0 0 := by
  refine ⟨⟨rfl, ?_, by simp [D.qy, PyData.depth], ?_⟩, by simp [bk, D.qy, PyData.bulk]⟩
  · simp only [D.qy, PyData.showable, decide_eq_true_eq]
    by_cases h0 : i.natAbs = 0
    · rw [h0]; decide
    · have h1 : i.natAbs.log2 < 150 := (Nat.log2_lt h0).mpr (Nat.lt_of_lt_of_le h (by decide))
      omega
  · simp only [D.qy, PyData.leavesShort, decide_eq_true_eq]
    have e := int_text_length_le10 (k := 44) (by decide) h
    show (Str.ofString (toString i)).length ≤ 50
    rw [ofString_length]; omega
theorem Gd.nat {n : Nat} (h : n ≤ 1000000) : Gd (nD n) 0 0 := Gd.int (by
  rw [Int.natAbs_natCast]
  exact Nat.lt_of_le_of_lt h (by decide))
theorem Gd.str {x : Str} {b : Nat} (h : x.cps.toList.all (fun c => decide (c < 16 ^ 8)) = true) (hb : x.cps.size ≤ b) : Gd (.str x) 0 b := by
  refine ⟨⟨rfl, by simp [D.qy, PyData.showable], by simp [D.qy, PyData.depth], ?_⟩, by simpa [bk, D.qy, PyData.bulk] using hb⟩
  simpa only [D.qy, PyData.leavesShort] using h
theorem qlAll_of {ds : List D} (h : ∀ d ∈ ds, d.ql = true) : qlAll ds = true := by
  induction ds with
  | nil => rfl
  | cons x r ih =>
    show (x.ql && qlAll r) = true
    rw [h x List.mem_cons_self, ih fun y hy => h y (List.mem_cons_of_mem _ hy)]; rfl
theorem shAll_of {ds : List D} (h : ∀ d ∈ ds, d.qy.showable = true) : PyData.showableAll (qyAll ds) = true := by
  induction ds with
  | nil => rfl
  | cons x r ih =>
    show (x.qy.showable && PyData.showableAll (qyAll r)) = true
    rw [h x List.mem_cons_self, ih fun y hy => h y (List.mem_cons_of_mem _ hy)]; rfl
theorem lfAll_of {ds : List D} (h : ∀ d ∈ ds, d.qy.leavesShort 50 = true) : PyData.leavesShortAll 50 (qyAll ds) = true := by
  induction ds with
  | nil => rfl
  | cons x r ih =>
    show (x.qy.leavesShort 50 && PyData.leavesShortAll 50 (qyAll r)) = true
    rw [h x List.mem_cons_self, ih fun y hy => h y (List.mem_cons_of_mem _ hy)]; rfl
theorem dpAll_of {n : Nat} {ds : List D} (h : ∀ d ∈ ds, d.qy.depth ≤ n) : PyData.depthAll (qyAll ds) ≤ n := by
  induction ds with
  | nil => exact Nat.zero_le _
  | cons x r ih =>
    show max x.qy.depth (PyData.depthAll (qyAll r)) ≤ n
    exact Nat.max_le.mpr ⟨h x List.mem_cons_self, ih fun y hy => h y (List.mem_cons_of_mem _ hy)⟩
theorem bkAll_eq (ds : List D) : PyData.bulkAll (qyAll ds) = bks' ds := by
  induction ds with
  | nil => rfl
  | cons x r ih =>
    show x.qy.bulk + 1 + PyData.bulkAll (qyAll r) = _
    rw [ih]; rfl
theorem Gd.lst {ds : List D} {n b : Nat} (h : Gds ds n b) : Gd (.lst ds) (n + 1) b := by
  refine ⟨⟨qlAll_of fun d hd => (h.g d hd).ql, shAll_of fun d hd => (h.g d hd).sh, ?_, lfAll_of fun d hd => (h.g d hd).lf⟩, ?_⟩
  · have := dpAll_of fun d hd => (h.g d hd).dp
    simp only [D.qy, PyData.depth]
    omega
  · have := bkAll_eq ds
    show PyData.bulkAll (qyAll ds) ≤ b
    rw [this]; exact h.k
theorem Gd.tup {ds : List D} {n b : Nat} (h : Gds ds n b) : Gd (.tup ds) (n + 1) b := by
  refine ⟨⟨qlAll_of fun d hd => (h.g d hd).ql, shAll_of fun d hd => (h.g d hd).sh, ?_, lfAll_of fun d hd => (h.g d hd).lf⟩, ?_⟩
  · have := dpAll_of fun d hd => (h.g d hd).dp
    simp only [D.qy, PyData.depth]
    omega
  · have := bkAll_eq ds
    show PyData.bulkAll (qyAll ds) ≤ b
    rw [this]; exact h.k
theorem Gds.nil {n b : Nat} : Gds [] n b := ⟨(fun _ h => nomatch h), Nat.zero_le _⟩
theorem Gds.cons {d : D} {ds : List D} {n b c : Nat} (h : Gd d n b) (hs : Gds ds n c) : Gds (d :: ds) n (b + 1 + c) := by
  refine ⟨fun x hx => ?_, ?_⟩
  · rcases List.mem_cons.mp hx with z | z
    · rw [z]; exact h.g
    · exact hs.g x z
  · show bk d + 1 + bks' ds ≤ _
    have := h.k
    have := hs.k
    omega
theorem bks_app (a b : List D) : bks' (a ++ b) = bks' a + bks' b := by unfold bks'; rw [List.map_append, List.sum_append]
theorem Gds.app {a b : List D} {n c e : Nat} (h : Gds a n c) (h' : Gds b n e) : Gds (a ++ b) n (c + e) := by
  refine ⟨fun x hx => ?_, by rw [bks_app]; exact Nat.add_le_add h.k h'.k⟩
  rcases List.mem_append.mp hx with z | z
  · exact h.g x z
  · exact h'.g x z
theorem Gds.all {n b : Nat} {ds : List D} (h : ∀ d ∈ ds, Gd d n b) : Gds ds n (ds.length * (b + 1)) := by
  refine ⟨fun x hx => (h x hx).g, ?_⟩
  induction ds with
  | nil => exact Nat.zero_le _
  | cons x r ih =>
    have h1 := (h x List.mem_cons_self).k
    have h2 := ih fun y hy => h y (List.mem_cons_of_mem _ hy)
    show bk x + 1 + bks' r ≤ _
    rw [List.length_cons, Nat.succ_mul]
    omega
/-- the parts of a tuple -/
theorem Gd.parts {ds : List D} {n b : Nat} (h : Gd (.tup ds) n b) : ∃ m, n = m + 1 ∧ Gds ds m b := by
  have hd := h.g.dp
  simp only [D.qy, PyData.depth] at hd
  have hq : qlAll ds = true := h.g.ql
  have hs : PyData.showableAll (qyAll ds) = true := h.g.sh
  have hl : PyData.leavesShortAll 50 (qyAll ds) = true := h.g.lf
  refine ⟨n - 1, by omega, ?_, by rw [← bkAll_eq]; exact h.k⟩
  have hd' : PyData.depthAll (qyAll ds) ≤ n - 1 := by omega
  generalize n - 1 = m at hd'
  clear h hd
  induction ds with
  | nil => exact fun _ h => nomatch h
  | cons x r ih =>
    have hq' : (x.ql && qlAll r) = true := hq
    have hs' : (x.qy.showable && PyData.showableAll (qyAll r)) = true := hs
    have hl' : (x.qy.leavesShort 50 && PyData.leavesShortAll 50 (qyAll r)) = true := hl
    have hd'' : max x.qy.depth (PyData.depthAll (qyAll r)) ≤ m := hd'
    rw [Bool.and_eq_true] at hq' hs' hl'
    rw [Nat.max_le] at hd''
    intro d hd
    rcases List.mem_cons.mp hd with z | z
    · rw [z]; exact ⟨hq'.1, hs'.1, hd''.1, hl'.1⟩
    · exact ih hq'.2 hs'.2 hl'.2 hd''.2 d z
theorem bks_split (ds : List D) (i : Nat) : bks' (ds.take i) + bks' (ds.drop i) = bks' ds := by rw [← bks_app, List.take_append_drop]
theorem reprQ_gd {d : D} {n b : Nat} (h : Gd d n b) (hn : n ≤ 60) (hb : b ≤ 15000) : reprQ [d] = some (.str d.qy.shown) := by
  have h3 : d.qy.depth ≤ 60 := Nat.le_trans h.g.dp hn
  have h4 : d.qy.shown.length ≤ sizeLine := by
    have h1 := PyData.shown_le_bulk 50 (by decide) d.qy h.g.lf
    have h2 : (50 + 2) * d.qy.bulk ≤ 52 * 15000 := Nat.mul_le_mul (by decide) (Nat.le_trans h.k hb)
    exact Nat.le_trans h1 (Nat.le_trans (show (50 + 2) * d.qy.bulk + 50 ≤ 900000 by omega) (by decide))
  show (if d.ql && d.qy.showable && decide (d.qy.depth ≤ 60) && decide (d.qy.shown.length ≤ sizeLine) then some (D.str d.qy.shown) else none) = _
  rw [h.g.ql, h.g.sh, decide_eq_true h3, decide_eq_true h4]
  rfl
/-! ### == with an empty list or tuple -/
theorem eqN_lst (ds : List D) : eqN (.lst ds) (.lst []) = some (.bl ds.isEmpty) := by
  unfold eqN eqM eqB
  have e : sEq (.lst ds) (.lst []) = none := rfl
  rw [e]
  by_cases h : (okD (.lst ds) && okD (.lst [])) = true
  · simp only [h, if_true]
    cases ds <;> rfl
  · simp only [h]
    cases ds <;> rfl
theorem neN_lst (ds : List D) : neN (.lst ds) (.lst []) = some (.bl (!ds.isEmpty)) := by
  unfold neN neM eqB
  have e : sEq (.lst ds) (.lst []) = none := rfl
  rw [e]
  by_cases h : (okD (.lst ds) && okD (.lst [])) = true
  · simp only [h, if_true]
    cases ds <;> rfl
  · simp only [h]
    cases ds <;> rfl
theorem eqN_tup (ds : List D) : eqN (.tup ds) (.tup []) = some (.bl ds.isEmpty) := by
  unfold eqN eqM eqB
  have e : sEq (.tup ds) (.tup []) = none := rfl
  rw [e]
  by_cases h : (okD (.tup ds) && okD (.tup [])) = true
  · simp only [h, if_true]
    cases ds <;> rfl
  · simp only [h]
    cases ds <;> rfl
theorem G0.dr {d : D} {n : Nat} (h : G0 d n) (st : S) : dr st d = d := dr_of fun m e => by
  have := h.ql
  rw [e] at this
  cases this
end Lw

set_option Elab.async false
set_option linter.all false
set_option maxRecDepth 100000
set_option maxHeartbeats 2000000
namespace MD
open PySem PySem.Spec PyProof.Rows L2
variable {ww : WW}
/-! ### repr, also of a dict that has one text as its key and a number there -/
def d1Text (x : Str) (i : Int) : Str := dictText [reprText x ++ ": " ++ toString i]
def rRepr1 (K : Fg) : List V → Hp → VK → Prop := fun xs H Q => ∃ (a : Addr) (x : Str) (i : Int), xs = [.ref a] ∧ Rd H a (.dK [(.inr x, .int i)]) ∧ i.natAbs.log2 < 1920 ∧ (reprText x).length ≤ sizeLine ∧ (d1Text x i).length ≤ sizeLine ∧ Q (.str (d1Text x i)) H
theorem call_repr1 {X : Cx} (hg : X.A.guards = some []) (hu : X.A.units + 64 < cLine) : CallR X (.builtin "repr") (rRepr1 X.K) := by
  intro pins s σ H xs us Q I rs h
  obtain ⟨a, x, i, rfl, hd, hi, hz, hz2, q⟩ := h
  obtain ⟨u, rfl, rx⟩ := vals1 rs
  cases (show u = Value.ref a from rx)
  obtain ⟨_, hs, vs, kv, o, es, ep, ho, hx, hdt, _, hp, _⟩ := dk_rd I.hok hd
  have he : ∃ (t : Tok) (t' : Tok) (e : DictEntry), es = #[e] ∧ e.key = .str x t ∧ e.val = .int i t' := by
    cases kv with
    | @cons _ v _ _ rv rr =>
      cases rr
      obtain ⟨ek, ev⟩ := rv
      obtain ⟨l⟩ := es
      cases hp with
      | @cons e _ _ _ h1 h2 h3 =>
        cases h3
        rw [← ek] at h1
        rcases keyIs_shape (show keyIs (.inr x) e.key = true from h1) with ⟨j, t, z, _⟩ | ⟨y, t, z, hk⟩
        · cases z
        · cases z
          obtain ⟨t', hv⟩ := ev
          exact ⟨t, t', e, rfl, hk, h2.trans hv⟩
  obtain ⟨t, t', e, rfl, hk, hv⟩ := he
  have E : ReprEntriesK X.prog X.w [] s.heap 0 [e] [reprText x ++ ": " ++ toString i] := by
    refine .cons ?_ ?_ .nil
    · rw [hk]; exact .of_is (ReprIs.str x t hz) _ _ _
    · rw [hv]; exact .of_is (ReprIs.int t' hi) _ _ _
  have hty : s.TypeIs (.ref a) "dict" := ⟨o, ho, hx.1⟩
  exact call_repr_slot (by omega) hty F.slot_dict_repr (call_dict_reprK (as := []) (d := 0) ho hx.1 hdt hs (fun h => nomatch h) E hg (fun b _ => Clear.nil b) (by show X.A.units + 1 + 1 < cLine; omega) (fun _ _ e => e) (fun h' u tk hk => ⟨_, _, rfl, .str _, H, I.kept hk, ⟨_, rfl⟩, q⟩) hz2)
def repr1 : List D → Option D
  | [.dic [.inr x] [.int i]] => if i.natAbs.log2 < 1920 ∧ (reprText x).length ≤ sizeLine ∧ (d1Text x i).length ≤ sizeLine then some (.str (d1Text x i)) else none
  | _ => none
theorem rc_repr1 {K : Fg} : RC K (rRepr1 K) repr1 := by
  intro dk F H st vs ds z w rx hz Q q
  unfold repr1 at hz
  split at hz
  · split at hz
    · rename_i ho
      cases hz
      obtain ⟨v, rfl, r⟩ := rx.one
      obtain ⟨p, vs, rfl, h1, hl, r1⟩ := r.d w.sub
      cases r1 with
      | cons a b =>
        cases b
        cases a
        exact ⟨p, _, _, rfl, h1, ho.1, ho.2.1, ho.2.2, q _ F H (Px.refl w.sub) (.str _)⟩
    · cases hz
  · cases hz
def reprX (ds : List D) : Option D := (reprQ ds).orElse fun _ => repr1 ds
def rReprX (K : Fg) : List V → Hp → VK → Prop := fun xs H Q => rReprQ K xs H Q ∨ rRepr1 K xs H Q
theorem call_reprX {X : Cx} (hg : X.A.guards = some []) (hu : X.A.units + 64 < cLine) : CallR X (.builtin "repr") (rReprX X.K) := by
  intro pins s σ H xs us Q I rs h
  rcases h with h | h
  · exact call_reprQ hg hu pins s σ H xs us Q I rs h
  · exact call_repr1 hg hu pins s σ H xs us Q I rs h
theorem rc_reprX {K : Fg} : RC K (rReprX K) reprX := by
  intro dk F H st vs ds z w rx hz Q q
  unfold reprX at hz
  cases h : reprQ ds with
  | some y =>
    rw [h] at hz
    cases hz
    exact .inl (rc_reprQ dk F H st vs ds _ w rx h Q q)
  | none =>
    rw [h] at hz
    exact .inr (rc_repr1 dk F H st vs ds z w rx hz Q q)
end MD

set_option Elab.async false
set_option linter.all false
set_option maxRecDepth 100000
set_option maxHeartbeats 4000000
namespace Lw
open PySem PySem.Spec PyProof.Rows L2 MD
/-! ### the text -/
def topS (i : Nat) : Stmt := PySem.Challenge.pw_unitlimits_k00_errors_made_by_hand.main.body.getD i (.Pass ⟨0, 0, 0, 0⟩)
abbrev s__law_deck : Stmt := topS 71
theorem sc__law_deck : FnScope ["_law_script", "_law_cell"] ["_law_script"] (defScope s__law_deck) := ⟨rfl, rfl, rfl, by decide +kernel, rfl, by decide +kernel, by decide +kernel⟩
abbrev s__law_fields : Stmt := topS 77
theorem sc__law_fields : FnScope ["_law_a", "_law_found"] ["_law_a"] (defScope s__law_fields) := ⟨rfl, rfl, rfl, by decide +kernel, rfl, by decide +kernel, by decide +kernel⟩
abbrev s__law_draw : Stmt := topS 72
theorem sc__law_draw : FnScope ["_law_deck_here", "_law_many", "_law_cell", "_law_at", "_law_mixed"] ["_law_deck_here", "_law_many"] (defScope s__law_draw) := ⟨rfl, rfl, rfl, by decide +kernel, rfl, by decide +kernel, by decide +kernel⟩
abbrev s__law_one : Stmt := topS 73
theorem sc__law_one : FnScope ["_law_deck_here", "_law_items"] ["_law_deck_here", "_law_items"] (defScope s__law_one) := ⟨rfl, rfl, rfl, by decide +kernel, rfl, by decide +kernel, by decide +kernel⟩
abbrev s__law_value : Stmt := topS 74
theorem sc__law_value : FnScope ["_law_deck_here", "_law_many", "_law_values"] ["_law_deck_here"] (defScope s__law_value) := ⟨rfl, rfl, rfl, by decide +kernel, rfl, by decide +kernel, by decide +kernel⟩
abbrev s__law_kinds : Stmt := topS 75
theorem sc__law_kinds : FnScope ["_law_e", "_law_found"] ["_law_e"] (defScope s__law_kinds) := ⟨rfl, rfl, rfl, by decide +kernel, rfl, by decide +kernel, by decide +kernel⟩
abbrev s__law_kinds_right : Stmt := topS 76
theorem sc__law_kinds_right : FnScope ["_law_a", "_law_some", "_law_k", "_law_e", "_law_j"] ["_law_a"] (defScope s__law_kinds_right) := ⟨rfl, rfl, rfl, by decide +kernel, rfl, by decide +kernel, by decide +kernel⟩
abbrev s_law : Stmt := topS 78
theorem sc_law : FnScope ["_law_script", "_law_deck_here", "_law_turn", "_law_a", "_law_value_here", "_law_found", "_law_one_here"] ["_law_script"] (defScope s_law) := ⟨rfl, rfl, rfl, by decide +kernel, rfl, by decide +kernel, by decide +kernel⟩
abbrev s_BadText___init__ : Stmt := inClass (topS 3) 0
theorem sc_BadText___init__ : FnScope ["self", "line"] ["self", "line"] (defScope s_BadText___init__) := ⟨rfl, rfl, rfl, by decide +kernel, rfl, by decide +kernel, by decide +kernel⟩
abbrev s_BadScheme___init__ : Stmt := inClass (topS 4) 0
theorem sc_BadScheme___init__ : FnScope ["self", "error"] ["self", "error"] (defScope s_BadScheme___init__) := ⟨rfl, rfl, rfl, by decide +kernel, rfl, by decide +kernel, by decide +kernel⟩
abbrev s_BadCuts___init__ : Stmt := inClass (topS 5) 0
theorem sc_BadCuts___init__ : FnScope ["self", "error"] ["self", "error"] (defScope s_BadCuts___init__) := ⟨rfl, rfl, rfl, by decide +kernel, rfl, by decide +kernel, by decide +kernel⟩
abbrev s_BadWord___init__ : Stmt := inClass (topS 6) 0
theorem sc_BadWord___init__ : FnScope ["self", "word"] ["self", "word"] (defScope s_BadWord___init__) := ⟨rfl, rfl, rfl, by decide +kernel, rfl, by decide +kernel, by decide +kernel⟩
abbrev s_BadLimit___init__ : Stmt := inClass (topS 7) 0
theorem sc_BadLimit___init__ : FnScope ["self", "limit"] ["self", "limit"] (defScope s_BadLimit___init__) := ⟨rfl, rfl, rfl, by decide +kernel, rfl, by decide +kernel, by decide +kernel⟩
abbrev s_Overlong___init__ : Stmt := inClass (topS 8) 0
theorem sc_Overlong___init__ : FnScope ["self", "word"] ["self", "word"] (defScope s_Overlong___init__) := ⟨rfl, rfl, rfl, by decide +kernel, rfl, by decide +kernel, by decide +kernel⟩
abbrev s_BadEdit___init__ : Stmt := inClass (topS 14) 0
theorem sc_BadEdit___init__ : FnScope ["self", "index"] ["self", "index"] (defScope s_BadEdit___init__) := ⟨rfl, rfl, rfl, by decide +kernel, rfl, by decide +kernel, by decide +kernel⟩
abbrev s_Rejected___init__ : Stmt := inClass (topS 15) 0
theorem sc_Rejected___init__ : FnScope ["self", "index"] ["self", "index"] (defScope s_Rejected___init__) := ⟨rfl, rfl, rfl, by decide +kernel, rfl, by decide +kernel, by decide +kernel⟩
abbrev s_NoCut___init__ : Stmt := inClass (topS 16) 0
theorem sc_NoCut___init__ : FnScope ["self", "index"] ["self", "index"] (defScope s_NoCut___init__) := ⟨rfl, rfl, rfl, by decide +kernel, rfl, by decide +kernel, by decide +kernel⟩
abbrev s_NoVersion___init__ : Stmt := inClass (topS 17) 0
theorem sc_NoVersion___init__ : FnScope ["self", "version"] ["self", "version"] (defScope s_NoVersion___init__) := ⟨rfl, rfl, rfl, by decide +kernel, rfl, by decide +kernel, by decide +kernel⟩
structure Txt (K : Fg) (mg : Str → Option Value) : Prop where
  n_len : mg "len" = none
  n_str : mg "str" = none
  n_isinstance : mg "isinstance" = none
  n_range : mg "range" = none
  n_LookupError : mg "LookupError" = none
  n_ValueError : mg "ValueError" = none
  n_repr : mg "repr" = none
  c_MAX_LETTERS : ∃ t, mg "MAX_LETTERS" = some (.int 4 t)
  c_MAX_STATES : ∃ t, mg "MAX_STATES" = some (.int 8 t)
  c_MAX_COUNT : ∃ t, mg "MAX_COUNT" = some (.int 9 t)
  c_MAX_MOST : ∃ t, mg "MAX_MOST" = some (.int 200 t)
  c_MAX_CUT : ∃ t, mg "MAX_CUT" = some (.int 20 t)
  c_MAX_CUTS : ∃ t, mg "MAX_CUTS" = some (.int 3 t)
  c_MAX_LENGTH : ∃ t, mg "MAX_LENGTH" = some (.int 400 t)
  c_MAX_EDITS : ∃ t, mg "MAX_EDITS" = some (.int 60 t)
  c_BATCH : ∃ t, mg "BATCH" = some (.int 20 t)
  c_MAX_PARTED : ∃ t, mg "MAX_PARTED" = some (.int 40 t)
  c_MAX_ROAD : ∃ t, mg "MAX_ROAD" = some (.int 4 t)
  n_int : mg "int" = none
  n_abs : mg "abs" = none
def tb_BadText : List (Str × Bool) := [("BadText", true), ("BadScheme", false), ("BadCuts", false), ("BadWord", false), ("BadLimit", false), ("Overlong", false), ("BadEdit", false), ("Rejected", false), ("NoCut", false), ("NoVersion", false), ("Busy", false), ("TooManyEdits", false), ("NothingToUndo", false), ("NothingToRedo", false), ("BadEdits", false), ("UnitError", false)]
def tb_BadScheme : List (Str × Bool) := [("BadText", false), ("BadScheme", true), ("BadCuts", false), ("BadWord", false), ("BadLimit", false), ("Overlong", false), ("BadEdit", false), ("Rejected", false), ("NoCut", false), ("NoVersion", false), ("Busy", false), ("TooManyEdits", false), ("NothingToUndo", false), ("NothingToRedo", false), ("BadEdits", false), ("UnitError", false)]
def tb_BadCuts : List (Str × Bool) := [("BadText", false), ("BadScheme", false), ("BadCuts", true), ("BadWord", false), ("BadLimit", false), ("Overlong", false), ("BadEdit", false), ("Rejected", false), ("NoCut", false), ("NoVersion", false), ("Busy", false), ("TooManyEdits", false), ("NothingToUndo", false), ("NothingToRedo", false), ("BadEdits", false), ("UnitError", false)]
def tb_BadWord : List (Str × Bool) := [("BadText", false), ("BadScheme", false), ("BadCuts", false), ("BadWord", true), ("BadLimit", false), ("Overlong", false), ("BadEdit", false), ("Rejected", false), ("NoCut", false), ("NoVersion", false), ("Busy", false), ("TooManyEdits", false), ("NothingToUndo", false), ("NothingToRedo", false), ("BadEdits", false), ("UnitError", false)]
def tb_BadLimit : List (Str × Bool) := [("BadText", false), ("BadScheme", false), ("BadCuts", false), ("BadWord", false), ("BadLimit", true), ("Overlong", false), ("BadEdit", false), ("Rejected", false), ("NoCut", false), ("NoVersion", false), ("Busy", false), ("TooManyEdits", false), ("NothingToUndo", false), ("NothingToRedo", false), ("BadEdits", false), ("UnitError", false)]
def tb_Overlong : List (Str × Bool) := [("BadText", false), ("BadScheme", false), ("BadCuts", false), ("BadWord", false), ("BadLimit", false), ("Overlong", true), ("BadEdit", false), ("Rejected", false), ("NoCut", false), ("NoVersion", false), ("Busy", false), ("TooManyEdits", false), ("NothingToUndo", false), ("NothingToRedo", false), ("BadEdits", false), ("UnitError", false)]
def tb_Busy : List (Str × Bool) := [("BadText", false), ("BadScheme", false), ("BadCuts", false), ("BadWord", false), ("BadLimit", false), ("Overlong", false), ("BadEdit", false), ("Rejected", false), ("NoCut", false), ("NoVersion", false), ("Busy", true), ("TooManyEdits", false), ("NothingToUndo", false), ("NothingToRedo", false), ("BadEdits", false), ("UnitError", false)]
def tb_TooManyEdits : List (Str × Bool) := [("BadText", false), ("BadScheme", false), ("BadCuts", false), ("BadWord", false), ("BadLimit", false), ("Overlong", false), ("BadEdit", false), ("Rejected", false), ("NoCut", false), ("NoVersion", false), ("Busy", false), ("TooManyEdits", true), ("NothingToUndo", false), ("NothingToRedo", false), ("BadEdits", false), ("UnitError", false)]
def tb_NothingToUndo : List (Str × Bool) := [("BadText", false), ("BadScheme", false), ("BadCuts", false), ("BadWord", false), ("BadLimit", false), ("Overlong", false), ("BadEdit", false), ("Rejected", false), ("NoCut", false), ("NoVersion", false), ("Busy", false), ("TooManyEdits", false), ("NothingToUndo", true), ("NothingToRedo", false), ("BadEdits", false), ("UnitError", false)]
def tb_NothingToRedo : List (Str × Bool) := [("BadText", false), ("BadScheme", false), ("BadCuts", false), ("BadWord", false), ("BadLimit", false), ("Overlong", false), ("BadEdit", false), ("Rejected", false), ("NoCut", false), ("NoVersion", false), ("Busy", false), ("TooManyEdits", false), ("NothingToUndo", false), ("NothingToRedo", true), ("BadEdits", false), ("UnitError", false)]
def tb_BadEdits : List (Str × Bool) := [("BadText", false), ("BadScheme", false), ("BadCuts", false), ("BadWord", false), ("BadLimit", false), ("Overlong", false), ("BadEdit", false), ("Rejected", false), ("NoCut", false), ("NoVersion", false), ("Busy", false), ("TooManyEdits", false), ("NothingToUndo", false), ("NothingToRedo", false), ("BadEdits", true), ("UnitError", false)]
def tb_BadEdit : List (Str × Bool) := [("BadText", false), ("BadScheme", false), ("BadCuts", false), ("BadWord", false), ("BadLimit", false), ("Overlong", false), ("BadEdit", true), ("Rejected", false), ("NoCut", false), ("NoVersion", false), ("Busy", false), ("TooManyEdits", false), ("NothingToUndo", false), ("NothingToRedo", false), ("BadEdits", false), ("UnitError", false)]
def tb_Rejected : List (Str × Bool) := [("BadText", false), ("BadScheme", false), ("BadCuts", false), ("BadWord", false), ("BadLimit", false), ("Overlong", false), ("BadEdit", false), ("Rejected", true), ("NoCut", false), ("NoVersion", false), ("Busy", false), ("TooManyEdits", false), ("NothingToUndo", false), ("NothingToRedo", false), ("BadEdits", false), ("UnitError", false)]
def tb_LookupError : List (Str × Bool) := [("BadText", false), ("BadScheme", false), ("BadCuts", false), ("BadWord", false), ("BadLimit", false), ("Overlong", false), ("BadEdit", false), ("Rejected", false), ("NoCut", true), ("NoVersion", true), ("Busy", false), ("TooManyEdits", false), ("NothingToUndo", false), ("NothingToRedo", false), ("BadEdits", false), ("UnitError", false)]
def tb_UnitError : List (Str × Bool) := [("BadText", true), ("BadScheme", true), ("BadCuts", true), ("BadWord", true), ("BadLimit", true), ("Overlong", true), ("BadEdit", true), ("Rejected", true), ("NoCut", false), ("NoVersion", false), ("Busy", true), ("TooManyEdits", true), ("NothingToUndo", true), ("NothingToRedo", true), ("BadEdits", true), ("UnitError", true)]
def tb_ValueError : List (Str × Bool) := [("BadText", true), ("BadScheme", true), ("BadCuts", true), ("BadWord", true), ("BadLimit", true), ("Overlong", true), ("BadEdit", true), ("Rejected", true), ("NoCut", false), ("NoVersion", false), ("Busy", true), ("TooManyEdits", true), ("NothingToUndo", true), ("NothingToRedo", true), ("BadEdits", true), ("UnitError", true)]
def tb_NoVersion : List (Str × Bool) := [("BadText", false), ("BadScheme", false), ("BadCuts", false), ("BadWord", false), ("BadLimit", false), ("Overlong", false), ("BadEdit", false), ("Rejected", false), ("NoCut", false), ("NoVersion", true), ("Busy", false), ("TooManyEdits", false), ("NothingToUndo", false), ("NothingToRedo", false), ("BadEdits", false), ("UnitError", false)]
def tb_NoCut : List (Str × Bool) := [("BadText", false), ("BadScheme", false), ("BadCuts", false), ("BadWord", false), ("BadLimit", false), ("Overlong", false), ("BadEdit", false), ("Rejected", false), ("NoCut", true), ("NoVersion", false), ("Busy", false), ("TooManyEdits", false), ("NothingToUndo", false), ("NothingToRedo", false), ("BadEdits", false), ("UnitError", false)]
/-! ### mirrors -/
def dc : DC := ⟨2147483563, 8117, 3, 2147483629⟩
def m__law_draw : MF := drawM dc
noncomputable def b__law_fields : MS :=
 (seqM (asgM (nameT 1) (frz (lstM (aCons (mkfM "BadText" "line" (rd 0)) (aCons (mkfM "BadScheme" "error" (rd 0)) (aCons (mkfM "BadCuts" "error" (rd 0)) (aCons (mkfM "BadWord" "word" (rd 0)) (aCons (mkfM "BadLimit" "limit" (rd 0)) aNil))))))))
 (retM (opM addM (rd 1) (frz (lstM (aCons (mkfM "Overlong" "word" (rd 0)) (aCons (mkfM "BadEdit" "index" (rd 0)) (aCons (mkfM "Rejected" "index" (rd 0)) (aCons (mkfM "NoCut" "index" (rd 0)) (aCons (mkfM "NoVersion" "version" (rd 0)) aNil))))))))))
noncomputable def m__law_fields : MF := runM 2 b__law_fields
noncomputable def b__law_one : MS :=
 (retM (opM subD (rd 1) (callM m__law_draw (aCons (rd 0) (aCons (cbM lenA (aCons (rd 1) aNil)) aNil)))))
noncomputable def m__law_one : MF := runM 2 b__law_one
noncomputable def b__law_value : MS :=
 (seqM (asgM (nameT 1) (opM subM (callM m__law_draw (aCons (rd 0) (aCons (opM powM (cst (.int 10)) (cst (.int 9))) aNil))) (opM mulA (cst (.int 5)) (opM powM (cst (.int 10)) (cst (.int 8))))))
 (seqM (asgM (nameT 2) (frz (lstM (aCons (cst .non) (aCons (cst (.bl true)) (aCons (cst (.bl false)) (aCons (cst (.int 0)) (aCons (cst (.int 1)) (aCons (rd 1) (aCons (cbM strIntM (aCons (rd 1) aNil)) (aCons (cst (.str "")) (aCons (tupM aNil) (aCons (tupM (aCons (rd 1) aNil)) (aCons (frz (lstM (aCons (rd 1) aNil))) (aCons (tupM (aCons (cst .non) (aCons (cst (.str "places")) aNil))) (aCons (tupM (aCons (tupM (aCons (cst (.int 1)) aNil)) (aCons (cst (.bl true)) aNil))) (aCons (frzK newK) aNil)))))))))))))))))
 (retM (callM m__law_one (aCons (rd 0) (aCons (opM addM (rd 2) (frz (lstM (aCons (frzK (dispK (pCons (cst (.str "a")) (rd 1) pNil))) (aCons (tupM (aCons (cst (.str "pay")) (aCons (cst (.str "n")) aNil))) (aCons (tupM (aCons (tupM (aCons (cst (.int 0)) (aCons (cst (.int 1)) aNil))) (aCons (tupM (aCons (cst (.int 1)) (aCons (rd 1) aNil))) aNil))) aNil)))))) aNil))))))
noncomputable def m__law_value : MF := runM 3 b__law_value
noncomputable def b__law_kinds : MS :=
 (seqM (asgM (nameT 1) (frz (lstM (aCons (isxM tb_BadText (rd 0)) (aCons (isxM tb_BadScheme (rd 0)) (aCons (isxM tb_BadCuts (rd 0)) (aCons (isxM tb_BadWord (rd 0)) aNil)))))))
 (seqM (asgM (nameT 1) (opM addM (rd 1) (frz (lstM (aCons (isxM tb_BadLimit (rd 0)) (aCons (isxM tb_Overlong (rd 0)) (aCons (isxM tb_Busy (rd 0)) aNil)))))))
 (seqM (asgM (nameT 1) (opM addM (rd 1) (frz (lstM (aCons (isxM tb_TooManyEdits (rd 0)) (aCons (isxM tb_NothingToUndo (rd 0)) (aCons (isxM tb_NothingToRedo (rd 0)) aNil)))))))
 (retM (opM addM (rd 1) (frz (lstM (aCons (isxM tb_BadEdits (rd 0)) (aCons (isxM tb_BadEdit (rd 0)) (aCons (isxM tb_Rejected (rd 0)) aNil))))))))))
noncomputable def m__law_kinds : MF := runM 2 b__law_kinds
noncomputable def b__law_kinds_right : MS :=
 (seqM (asgM (nameT 1) (frz (lstM (aCons (mkxM "BadText" (rd 0)) (aCons (mkxM "BadScheme" (rd 0)) (aCons (mkxM "BadCuts" (rd 0)) (aCons (mkxM "BadWord" (rd 0)) (aCons (mkxM "BadLimit" (rd 0)) (aCons (mkxM "Overlong" (rd 0)) (aCons (mk0M "Busy") (aCons (mk0M "TooManyEdits") aNil)))))))))))
 (seqM (asgM (nameT 1) (opM addM (rd 1) (frz (lstM (aCons (mk0M "NothingToUndo") (aCons (mk0M "NothingToRedo") (aCons (mk0M "BadEdits") (aCons (mkxM "BadEdit" (rd 0)) (aCons (mkxM "Rejected" (rd 0)) aNil)))))))))
 (seqM (forM (r1M (aCons (cst (.int 13)) aNil)) (nameT 2)
 (seqM (ifS (orM (tstM (opM neM (callM m__law_kinds (aCons (opM subD (rd 1) (rd 2)) aNil)) (frz (compM (r1M (aCons (cst (.int 13)) aNil)) (nameT 4) yesM (opM eqM (rd 4) (rd 2)) [4])))) (truM (isxM tb_LookupError (opM subD (rd 1) (rd 2)))))
 (retM (cst (.bl false)))
 nxM)
 (ifS (orM (notM (truM (isxM tb_UnitError (opM subD (rd 1) (rd 2))))) (notM (truM (isxM tb_ValueError (opM subD (rd 1) (rd 2))))))
 (retM (cst (.bl false)))
 nxM)))
 (seqM (forM (seqI (frz (lstM (aCons (mkxM "NoCut" (rd 0)) (aCons (mkxM "NoVersion" (rd 0)) (aCons (mk0M "UnitError") aNil)))))) (nameT 3)
 (ifS (tstM (opM (cntD false) (cst (.bl true)) (callM m__law_kinds (aCons (rd 3) aNil))))
 (retM (cst (.bl false)))
 nxM))
 (seqM (forM (seqI (frz (lstM (aCons (mkxM "NoCut" (rd 0)) (aCons (mkxM "NoVersion" (rd 0)) aNil))))) (nameT 3)
 (ifS (orM (notM (truM (isxM tb_LookupError (rd 3)))) (orM (truM (isxM tb_ValueError (rd 3))) (truM (isxM tb_UnitError (rd 3)))))
 (retM (cst (.bl false)))
 nxM))
 (seqM (ifS (orM (truM (isxM tb_LookupError (mk0M "UnitError"))) (notM (truM (isxM tb_ValueError (mk0M "UnitError")))))
 (retM (cst (.bl false)))
 nxM)
 (retM (andV (notV (isxM tb_NoVersion (mkxM "NoCut" (rd 0)))) (notV (isxM tb_NoCut (mkxM "NoVersion" (rd 0))))))))))))
noncomputable def m__law_kinds_right : MF := runM 5 b__law_kinds_right
noncomputable def b_law : MS :=
 (seqM (forM (r1M (aCons (cst (.int 4)) aNil)) (nameT 2)
 (seqM (asgM (nameT 3) (callM m__law_value (aCons (rd 1) aNil)))
 (ifS (orM (notM (truM (callM m__law_kinds_right (aCons (rd 3) aNil)))) (tstM (opM neM (frz (compM (seqI (callM m__law_fields (aCons (rd 3) aNil))) (nameT 6) yesM (cbM reprX (aCons (rd 6) aNil)) [6])) (frz (opF lstMul (frz (lstM (aCons (cbM reprX (aCons (rd 3) aNil)) aNil))) (cst (.int 10)))))))
 (retM (cst (.bl false)))
 nxM)))
 (seqM (asgM (nameT 4) (stoL (lstM (aCons (cst (.int 7)) aNil))))
 (seqM (asgM (nameT 5) (callM m__law_fields (aCons (rd 4) aNil)))
 (seqM (sappM (rd 4) (cst (.int 8)))
 (seqM (ifS (tstM (opM neM (frz (compM (seqI (rd 5)) (nameT 6) (tstM (opM neM (rd 6) (frz (lstM (aCons (cst (.int 7)) (aCons (cst (.int 8)) aNil)))))) (rd 6) [6])) (frz (lstM aNil))))
 (retM (cst (.bl false)))
 nxM)
 (seqM (asgM (nameT 5) (frz (lstM (aCons (cst (.int 4)) (aCons (cst (.int 8)) (aCons (cst (.int 9)) (aCons (cst (.int 200)) (aCons (cst (.int 20)) (aCons (cst (.int 3)) (aCons (cst (.int 400)) (aCons (cst (.int 60)) (aCons (cst (.int 20)) aNil))))))))))))
 (seqM (asgM (nameT 5) (opM addM (rd 5) (frz (lstM (aCons (cst (.int 40)) (aCons (cst (.int 4)) aNil))))))
 (retM (opM eqM (cbM reprX (aCons (opM addM (rd 5) (frz (lstM (aCons (cst (.int 60)) (aCons (cst (.int 60)) aNil))))) aNil)) (cbM reprX (aCons (frz (lstM (aCons (cst (.int 4)) (aCons (cst (.int 8)) (aCons (cst (.int 9)) (aCons (cst (.int 200)) (aCons (cst (.int 20)) (aCons (cst (.int 3)) (aCons (cst (.int 400)) (aCons (cst (.int 60)) (aCons (cst (.int 20)) (aCons (cst (.int 40)) (aCons (cst (.int 4)) (aCons (cst (.int 60)) (aCons (cst (.int 60)) aNil))))))))))))))) aNil)))))))))))
/-! ### exceptions as values -/
structure Exs (P : Program) (w : World) (K : Fg) (mg : Str → Option Value) (base : Heap) : Prop where
  v_BadText : XV P w K mg base "BadText" "line"
  v_BadScheme : XV P w K mg base "BadScheme" "error"
  v_BadCuts : XV P w K mg base "BadCuts" "error"
  v_BadWord : XV P w K mg base "BadWord" "word"
  v_BadLimit : XV P w K mg base "BadLimit" "limit"
  v_Overlong : XV P w K mg base "Overlong" "word"
  v_BadEdit : XV P w K mg base "BadEdit" "index"
  v_Rejected : XV P w K mg base "Rejected" "index"
  v_NoCut : XV P w K mg base "NoCut" "index"
  v_NoVersion : XV P w K mg base "NoVersion" "version"
  v_Busy : XV0 K mg "Busy"
  v_TooManyEdits : XV0 K mg "TooManyEdits"
  v_NothingToUndo : XV0 K mg "NothingToUndo"
  v_NothingToRedo : XV0 K mg "NothingToRedo"
  v_BadEdits : XV0 K mg "BadEdits"
  v_UnitError : XV0 K mg "UnitError"
  t_BadText : XT K mg "BadText" tb_BadText
  t_BadScheme : XT K mg "BadScheme" tb_BadScheme
  t_BadCuts : XT K mg "BadCuts" tb_BadCuts
  t_BadWord : XT K mg "BadWord" tb_BadWord
  t_BadLimit : XT K mg "BadLimit" tb_BadLimit
  t_Overlong : XT K mg "Overlong" tb_Overlong
  t_Busy : XT K mg "Busy" tb_Busy
  t_TooManyEdits : XT K mg "TooManyEdits" tb_TooManyEdits
  t_NothingToUndo : XT K mg "NothingToUndo" tb_NothingToUndo
  t_NothingToRedo : XT K mg "NothingToRedo" tb_NothingToRedo
  t_BadEdits : XT K mg "BadEdits" tb_BadEdits
  t_BadEdit : XT K mg "BadEdit" tb_BadEdit
  t_Rejected : XT K mg "Rejected" tb_Rejected
  t_LookupError : ExTab K (.type "LookupError") tb_LookupError
  t_UnitError : XT K mg "UnitError" tb_UnitError
  t_ValueError : ExTab K (.type "ValueError") tb_ValueError
  t_NoVersion : XT K mg "NoVersion" tb_NoVersion
  t_NoCut : XT K mg "NoCut" tb_NoCut
  k_Bench_MOST_EDITS : XCon K mg "Bench" "MOST_EDITS" 60
  k_KeepBench_MOST_EDITS : XCon K mg "KeepBench" "MOST_EDITS" 60
/-! ### the defs keep them -/
section
variable {P : Program} {ww : WW} {K : Fg} {mg : Str → Option Value} {base : Heap}
theorem ok_BadText___init__ {C U : Addr} (hm : mg "UnitError" = some (.ref U)) (M : UInit K U) (T : OexC K C) (hno : PySem.W.findIn K (.ref C) "line" = some none) {f : Addr} {fd : FuncData} (Fn : Fun K "__init__" "BadText.__init__" s_BadText___init__ f fd) : FnOk P WW.w K mg base CX0 1 f fd ["self", "line"] (spEI C "line") :=
  Fn.ok sc_BadText___init__ fnE_len fun cdv A outer s H vs Q E hr h => ⟨_, pss_cons (ps_expr (pe_uinit (by rfl) hm M (pa_cons (pv 0) (pa_cons pe_str pa_nil)))) (pss_one (ps_ost (pv 0) (pv 1))), exc_init T hno vs H Q E h ["self", "line"] rfl⟩
theorem ok_BadScheme___init__ {C U : Addr} (hm : mg "UnitError" = some (.ref U)) (M : UInit K U) (T : OexC K C) (hno : PySem.W.findIn K (.ref C) "error" = some none) {f : Addr} {fd : FuncData} (Fn : Fun K "__init__" "BadScheme.__init__" s_BadScheme___init__ f fd) : FnOk P WW.w K mg base CX0 1 f fd ["self", "error"] (spEI C "error") :=
  Fn.ok sc_BadScheme___init__ fnE_len fun cdv A outer s H vs Q E hr h => ⟨_, pss_cons (ps_expr (pe_uinit (by rfl) hm M (pa_cons (pv 0) (pa_cons pe_str pa_nil)))) (pss_one (ps_ost (pv 0) (pv 1))), exc_init T hno vs H Q E h ["self", "error"] rfl⟩
theorem ok_BadCuts___init__ {C U : Addr} (hm : mg "UnitError" = some (.ref U)) (M : UInit K U) (T : OexC K C) (hno : PySem.W.findIn K (.ref C) "error" = some none) {f : Addr} {fd : FuncData} (Fn : Fun K "__init__" "BadCuts.__init__" s_BadCuts___init__ f fd) : FnOk P WW.w K mg base CX0 1 f fd ["self", "error"] (spEI C "error") :=
  Fn.ok sc_BadCuts___init__ fnE_len fun cdv A outer s H vs Q E hr h => ⟨_, pss_cons (ps_expr (pe_uinit (by rfl) hm M (pa_cons (pv 0) (pa_cons pe_str pa_nil)))) (pss_one (ps_ost (pv 0) (pv 1))), exc_init T hno vs H Q E h ["self", "error"] rfl⟩
theorem ok_BadWord___init__ {C U : Addr} (hm : mg "UnitError" = some (.ref U)) (M : UInit K U) (T : OexC K C) (hno : PySem.W.findIn K (.ref C) "word" = some none) {f : Addr} {fd : FuncData} (Fn : Fun K "__init__" "BadWord.__init__" s_BadWord___init__ f fd) : FnOk P WW.w K mg base CX0 1 f fd ["self", "word"] (spEI C "word") :=
  Fn.ok sc_BadWord___init__ fnE_len fun cdv A outer s H vs Q E hr h => ⟨_, pss_cons (ps_expr (pe_uinit (by rfl) hm M (pa_cons (pv 0) (pa_cons pe_str pa_nil)))) (pss_one (ps_ost (pv 0) (pv 1))), exc_init T hno vs H Q E h ["self", "word"] rfl⟩
theorem ok_BadLimit___init__ {C U : Addr} (hm : mg "UnitError" = some (.ref U)) (M : UInit K U) (T : OexC K C) (hno : PySem.W.findIn K (.ref C) "limit" = some none) {f : Addr} {fd : FuncData} (Fn : Fun K "__init__" "BadLimit.__init__" s_BadLimit___init__ f fd) : FnOk P WW.w K mg base CX0 1 f fd ["self", "limit"] (spEI C "limit") :=
  Fn.ok sc_BadLimit___init__ fnE_len fun cdv A outer s H vs Q E hr h => ⟨_, pss_cons (ps_expr (pe_uinit (by rfl) hm M (pa_cons (pv 0) (pa_cons pe_str pa_nil)))) (pss_one (ps_ost (pv 0) (pv 1))), exc_init T hno vs H Q E h ["self", "limit"] rfl⟩
theorem ok_Overlong___init__ {C U : Addr} (hm : mg "UnitError" = some (.ref U)) (M : UInit K U) (T : OexC K C) (hno : PySem.W.findIn K (.ref C) "word" = some none) {f : Addr} {fd : FuncData} (Fn : Fun K "__init__" "Overlong.__init__" s_Overlong___init__ f fd) : FnOk P WW.w K mg base CX0 1 f fd ["self", "word"] (spEI C "word") :=
  Fn.ok sc_Overlong___init__ fnE_len fun cdv A outer s H vs Q E hr h => ⟨_, pss_cons (ps_expr (pe_uinit (by rfl) hm M (pa_cons (pv 0) (pa_cons pe_str pa_nil)))) (pss_one (ps_ost (pv 0) (pv 1))), exc_init T hno vs H Q E h ["self", "word"] rfl⟩
theorem ok_BadEdit___init__ {C U : Addr} (hm : mg "UnitError" = some (.ref U)) (M : UInit K U) (T : OexC K C) (hno : PySem.W.findIn K (.ref C) "index" = some none) {f : Addr} {fd : FuncData} (Fn : Fun K "__init__" "BadEdit.__init__" s_BadEdit___init__ f fd) : FnOk P WW.w K mg base CX0 1 f fd ["self", "index"] (spEI C "index") :=
  Fn.ok sc_BadEdit___init__ fnE_len fun cdv A outer s H vs Q E hr h => ⟨_, pss_cons (ps_expr (pe_uinit (by rfl) hm M (pa_cons (pv 0) (pa_cons pe_str pa_nil)))) (pss_one (ps_ost (pv 0) (pv 1))), exc_init T hno vs H Q E h ["self", "index"] rfl⟩
theorem ok_Rejected___init__ {C U : Addr} (hm : mg "UnitError" = some (.ref U)) (M : UInit K U) (T : OexC K C) (hno : PySem.W.findIn K (.ref C) "index" = some none) {f : Addr} {fd : FuncData} (Fn : Fun K "__init__" "Rejected.__init__" s_Rejected___init__ f fd) : FnOk P WW.w K mg base CX0 1 f fd ["self", "index"] (spEI C "index") :=
  Fn.ok sc_Rejected___init__ fnE_len fun cdv A outer s H vs Q E hr h => ⟨_, pss_cons (ps_expr (pe_uinit (by rfl) hm M (pa_cons (pv 0) (pa_cons pe_str pa_nil)))) (pss_one (ps_ost (pv 0) (pv 1))), exc_init T hno vs H Q E h ["self", "index"] rfl⟩
theorem ok_NoCut___init__ {C : Addr} (hm : mg "LookupError" = none) (vV : PySem.W.findCls K (.type "LookupError") (.type "type") "__init__" = some (.val (.builtin "LookupError.__init__"))) (T : OlxC K C) (hno : PySem.W.findIn K (.ref C) "index" = some none) {f : Addr} {fd : FuncData} (Fn : Fun K "__init__" "NoCut.__init__" s_NoCut___init__ f fd) : FnOk P WW.w K mg base CX0 1 f fd ["self", "index"] (spEI C "index") :=
  Fn.ok sc_NoCut___init__ fnE_len fun cdv A outer s H vs Q E hr h => ⟨_, pss_cons (ps_expr (pe_leinit (by rfl) hm vV (pa_cons (pv 0) (pa_cons pe_str pa_nil)))) (pss_one (ps_ole (pv 0) (pv 1))), exc_initL T hno vs H Q E h ["self", "index"] rfl⟩
theorem ok_NoVersion___init__ {C : Addr} (hm : mg "LookupError" = none) (vV : PySem.W.findCls K (.type "LookupError") (.type "type") "__init__" = some (.val (.builtin "LookupError.__init__"))) (T : OlxC K C) (hno : PySem.W.findIn K (.ref C) "version" = some none) {f : Addr} {fd : FuncData} (Fn : Fun K "__init__" "NoVersion.__init__" s_NoVersion___init__ f fd) : FnOk P WW.w K mg base CX0 1 f fd ["self", "version"] (spEI C "version") :=
  Fn.ok sc_NoVersion___init__ fnE_len fun cdv A outer s H vs Q E hr h => ⟨_, pss_cons (ps_expr (pe_leinit (by rfl) hm vV (pa_cons (pv 0) (pa_cons pe_str pa_nil)))) (pss_one (ps_ole (pv 0) (pv 1))), exc_initL T hno vs H Q E h ["self", "version"] rfl⟩
theorem ok__law_deck (T : Txt K mg) {f : Addr} {fd : FuncData} (Fn : Fun K "_law_deck" "_law_deck" s__law_deck f fd)  : FnG P WW.w K mg base 1 f fd ["_law_script"] (spDeck K) :=
  fn_deck Fn sc__law_deck rfl rfl fun cdv A outer s H E => by
  refine (pss_one (ps_ret (pe_lst (pa_cons (pe_lc (own := [("_law_cell", 1)]) (g := gName 1) rfl sc__law_deck.nd (pi_list (pe_slice sl_list (pv 0) po_none (po_some pe_int))) (blkOk_by (own := [("_law_cell", 1)]) (N := ["_law_script", "_law_cell"]) (sc := defScope s__law_deck) (by decide +kernel)) (fun _ _ _ _ _ => pg_name (i := 1) sc__law_deck.nd rfl (Or.inl rfl)) (fun _ _ _ _ _ => pts_nil) (fun _ _ _ _ _ => pe_callB call_abs (by rfl) T.n_abs (by decide +kernel) (pa_cons (pv 1) pa_nil))) (pa_cons pe_int pa_nil)))))
theorem ok__law_fields (T : Txt K mg) {f : Addr} {fd : FuncData} (Fn : Fun K "_law_fields" "_law_fields" s__law_fields f fd)  (XS : Exs P WW.w K mg base) : FnG P WW.w K mg base 3 f fd ["_law_a"] (spD K 1 m__law_fields) :=
  fnD Fn sc__law_fields (by decide) fun cdv A outer s H E hr gd => ⟨_, (pss_cons (ps_set (i := 1) sc__law_fields.nd rfl (Or.inl rfl) (pe_lst (pa_cons (pe_xfX XS.v_BadText (pe_mkvX XS.v_BadText (hr.mono (by decide)) (pa_cons (pv 0) pa_nil))) (pa_cons (pe_xfX XS.v_BadScheme (pe_mkvX XS.v_BadScheme (hr.mono (by decide)) (pa_cons (pv 0) pa_nil))) (pa_cons (pe_xfX XS.v_BadCuts (pe_mkvX XS.v_BadCuts (hr.mono (by decide)) (pa_cons (pv 0) pa_nil))) (pa_cons (pe_xfX XS.v_BadWord (pe_mkvX XS.v_BadWord (hr.mono (by decide)) (pa_cons (pv 0) pa_nil))) (pa_cons (pe_xfX XS.v_BadLimit (pe_mkvX XS.v_BadLimit (hr.mono (by decide)) (pa_cons (pv 0) pa_nil))) pa_nil)))))))
 (pss_one (ps_ret (pe_op op_addA (pv 1) (pe_lst (pa_cons (pe_xfX XS.v_Overlong (pe_mkvX XS.v_Overlong (hr.mono (by decide)) (pa_cons (pv 0) pa_nil))) (pa_cons (pe_xfX XS.v_BadEdit (pe_mkvX XS.v_BadEdit (hr.mono (by decide)) (pa_cons (pv 0) pa_nil))) (pa_cons (pe_xfX XS.v_Rejected (pe_mkvX XS.v_Rejected (hr.mono (by decide)) (pa_cons (pv 0) pa_nil))) (pa_cons (pe_xfX XS.v_NoCut (pe_mkvX XS.v_NoCut (hr.mono (by decide)) (pa_cons (pv 0) pa_nil))) (pa_cons (pe_xfX XS.v_NoVersion (pe_mkvX XS.v_NoVersion (hr.mono (by decide)) (pa_cons (pv 0) pa_nil))) pa_nil)))))))))),
 (is_seq (is_asg ((if_lst (ia_cons (im_mkf (im_var 0)) (ia_cons (im_mkf (im_var 0)) (ia_cons (im_mkf (im_var 0)) (ia_cons (im_mkf (im_var 0)) (ia_cons (im_mkf (im_var 0)) ia_nil))))))).im (ig_name 1))
 (is_ret (im_op ro_addA ((im_var 1)).w ((if_lst (ia_cons (im_mkf (im_var 0)) (ia_cons (im_mkf (im_var 0)) (ia_cons (im_mkf (im_var 0)) (ia_cons (im_mkf (im_var 0)) (ia_cons (im_mkf (im_var 0)) ia_nil))))))).w)))⟩
theorem ok__law_draw (T : Txt K mg) {f : Addr} {fd : FuncData} (Fn : Fun K "_law_draw" "_law_draw" s__law_draw f fd)  : FnG P WW.w K mg base 1 f fd ["_law_deck_here", "_law_many"] (spD K 2 m__law_draw) :=
  fn_draw (c := dc) (by unfold DC.ok dc; decide) Fn sc__law_draw rfl rfl fun cdv A outer s H E => by
  refine (pss_cons (ps_asg (pe_op op_add (pe_ix ix_seq (pv 0) pe_int (fun _ _ => rfl)) pe_int) (pg_sub (pv 0) pe_int set_list))
 (pss_cons (ps_asg (pe_tup (pa_cons pe_int (pa_cons (pe_un un_neg pe_int) pa_nil))) (pg_tup rfl (pgs_cons (pg_name (i := 2) sc__law_draw.nd rfl (Or.inl rfl)) (pgs_cons (pg_name (i := 3) sc__law_draw.nd rfl (Or.inl rfl)) pgs_nil))))
 (pss_cons (ps_if (pt_cmpR op_gt (pe_callB call_len (by rfl) T.n_len (by decide +kernel) (pa_cons (pe_ix ix_seq (pv 0) pe_int (fun _ _ => rfl)) pa_nil)) pe_int (nomark _))
   (pss_cons (ps_set (i := 3) sc__law_draw.nd rfl (Or.inl rfl) (pe_op op_mod (pe_callTy call_int1 (by rfl) T.n_int (by decide +kernel) (pa_cons (pe_ix ix_seq (pv 0) pe_int (fun _ _ => rfl)) pa_nil)) (pe_callB call_len (by rfl) T.n_len (by decide +kernel) (pa_cons (pe_ix ix_seq (pv 0) pe_int (fun _ _ => rfl)) pa_nil)))) (pss_one (ps_set (i := 2) sc__law_draw.nd rfl (Or.inl rfl) (pe_ix ix_seq (pe_ix ix_seq (pv 0) pe_int (fun _ _ => rfl)) (pv 3) (fun _ _ => rfl))))) pss_nil)
 (pss_cons (ps_if (pt_cmpR op_ge (pv 2) (pe_op op_pow pe_int pe_int) (nomark _))
   (pss_cons (ps_asg (pe_op op_fdiv (pe_callTy call_int1 (by rfl) T.n_int (by decide +kernel) (pa_cons (pv 2) pa_nil)) (pv 1)) (pg_sub (pe_ix ix_seq (pv 0) pe_int (fun _ _ => rfl)) (pv 3) set_list)) (pss_one (ps_ret (pe_op op_mod (pe_callTy call_int1 (by rfl) T.n_int (by decide +kernel) (pa_cons (pv 2) pa_nil)) (pv 1))))) pss_nil)
 (pss_cons (ps_set (i := 4) sc__law_draw.nd rfl (Or.inl rfl) (pe_op op_add (pe_op op_add (pe_op op_mod (pe_callTy call_int1 (by rfl) T.n_int (by decide +kernel) (pa_cons (pv 2) pa_nil)) pe_int) (pe_op op_mul pe_int (pe_ix ix_seq (pv 0) pe_int (fun _ _ => rfl)))) pe_int))
 (pss_one (ps_ret (pe_op op_mod (pe_callTy call_int1 (by rfl) T.n_int (by decide +kernel) (pa_cons (pe_op op_mod (pe_callTy call_int1 (by rfl) T.n_int (by decide +kernel) (pa_cons (pe_op op_pow (pv 4) pe_int) pa_nil)) pe_int) pa_nil)) (pv 1)))))))))
theorem ok__law_one (T : Txt K mg) {f : Addr} {fd : FuncData} (Fn : Fun K "_law_one" "_law_one" s__law_one f fd) (c__law_draw : Cal P WW.w K mg base 1 "_law_draw" ["_law_deck_here", "_law_many"] (spD K 2 m__law_draw)) : FnG P WW.w K mg base 2 f fd ["_law_deck_here", "_law_items"] (spD K 2 m__law_one) :=
  fnD Fn sc__law_one (by decide) fun cdv A outer s H E hr gd => ⟨_, (pss_one (ps_ret (pe_sub (units1 hr.units) (pv 1) (pe_callC c__law_draw hr gd (by rfl) (pa_cons (pv 0) (pa_cons (pe_callB call_lenA (by rfl) T.n_len (by decide +kernel) (pa_cons (pv 1) pa_nil)) pa_nil)))))),
 (is_ret (im_sub ((im_var 1)).w ((im_call (ia_cons (im_var 0) (ia_cons (im_cb rc_lenA (iaw_cons ((im_var 1)).w iaw_nil)) ia_nil)) (an_cons (an_cons an_nil)))).w))⟩
theorem ok__law_value (T : Txt K mg) {f : Addr} {fd : FuncData} (Fn : Fun K "_law_value" "_law_value" s__law_value f fd) (c__law_draw : Cal P WW.w K mg base 1 "_law_draw" ["_law_deck_here", "_law_many"] (spD K 2 m__law_draw)) (c__law_one : Cal P WW.w K mg base 2 "_law_one" ["_law_deck_here", "_law_items"] (spD K 2 m__law_one)) : FnG P WW.w K mg base 3 f fd ["_law_deck_here"] (spD K 1 m__law_value) :=
  fnD Fn sc__law_value (by decide) fun cdv A outer s H E hr gd => ⟨_, (pss_cons (ps_set (i := 1) sc__law_value.nd rfl (Or.inl rfl) (pe_op op_sub (pe_callC c__law_draw hr gd (by rfl) (pa_cons (pv 0) (pa_cons (pe_op op_pow pe_int pe_int) pa_nil))) (pe_op op_mulA pe_int (pe_op op_pow pe_int pe_int))))
 (pss_cons (ps_set (i := 2) sc__law_value.nd rfl (Or.inl rfl) (pe_lst (pa_cons pe_non (pa_cons pe_bl (pa_cons pe_bl (pa_cons pe_int (pa_cons pe_int (pa_cons (pv 1) (pa_cons (pe_callTy call_str_int (by rfl) T.n_str (by decide +kernel) (pa_cons (pv 1) pa_nil)) (pa_cons pe_str (pa_cons (pe_tup pa_nil) (pa_cons (pe_tup (pa_cons (pv 1) pa_nil)) (pa_cons (pe_lst (pa_cons (pv 1) pa_nil)) (pa_cons (pe_tup (pa_cons pe_non (pa_cons pe_str pa_nil))) (pa_cons (pe_tup (pa_cons (pe_tup (pa_cons pe_int pa_nil)) (pa_cons pe_bl pa_nil))) (pa_cons pe_dnewK pa_nil))))))))))))))))
 (pss_one (ps_ret (pe_callC c__law_one hr gd (by rfl) (pa_cons (pv 0) (pa_cons (pe_op op_addA (pv 2) (pe_lst (pa_cons (pe_disp (pps_cons pe_str (pv 1) pps_nil) (by rfl) (by rfl) (fun z => nomatch z) (by decide)) (pa_cons (pe_tup (pa_cons pe_str (pa_cons pe_str pa_nil))) (pa_cons (pe_tup (pa_cons (pe_tup (pa_cons pe_int (pa_cons pe_int pa_nil))) (pa_cons (pe_tup (pa_cons pe_int (pa_cons (pv 1) pa_nil))) pa_nil))) pa_nil))))) pa_nil))))))),
 (is_seq (is_asg (im_op ro_sub ((im_call (ia_cons (im_var 0) (ia_cons (im_op ro_pow (im_int).w (im_int).w) ia_nil)) (an_cons (an_cons an_nil)))).w ((im_op ro_mulA (im_int).w ((im_op ro_pow (im_int).w (im_int).w)).w)).w) (ig_name 1))
 (is_seq (is_asg ((if_lst (ia_cons im_non (ia_cons im_bl (ia_cons im_bl (ia_cons im_int (ia_cons im_int (ia_cons (im_var 1) (ia_cons (im_cb rc_strInt (iaw_cons ((im_var 1)).w iaw_nil)) (ia_cons im_str (ia_cons (im_tup ia_nil) (ia_cons (im_tup (ia_cons (im_var 1) ia_nil)) (ia_cons ((if_lst (ia_cons (im_var 1) ia_nil))).im (ia_cons (im_tup (ia_cons im_non (ia_cons im_str ia_nil))) (ia_cons (im_tup (ia_cons (im_tup (ia_cons im_int ia_nil)) (ia_cons im_bl ia_nil))) (ia_cons (ik_new).im ia_nil)))))))))))))))).im (ig_name 2))
 (is_ret (im_call (ia_cons (im_var 0) (ia_cons (im_op ro_addA ((im_var 2)).w ((if_lst (ia_cons ((ik_disp (ip_cons im_str (im_var 1) ip_nil))).im (ia_cons (im_tup (ia_cons im_str (ia_cons im_str ia_nil))) (ia_cons (im_tup (ia_cons (im_tup (ia_cons im_int (ia_cons im_int ia_nil))) (ia_cons (im_tup (ia_cons im_int (ia_cons (im_var 1) ia_nil))) ia_nil))) ia_nil))))).w) ia_nil)) (an_cons (an_cons an_nil))))))⟩
theorem ok__law_kinds (T : Txt K mg) {f : Addr} {fd : FuncData} (Fn : Fun K "_law_kinds" "_law_kinds" s__law_kinds f fd)  (XS : Exs P WW.w K mg base) : FnG P WW.w K mg base 1 f fd ["_law_e"] (spD K 1 m__law_kinds) :=
  fnD Fn sc__law_kinds (by decide) fun cdv A outer s H E hr gd => ⟨_, (pss_cons (ps_set (i := 1) sc__law_kinds.nd rfl (Or.inl rfl) (pe_lst (pa_cons (pe_callB call_isX (by rfl) T.n_isinstance (by decide +kernel) (pa_cons (pv 0) (pa_cons (pe_clName (by rfl) XS.t_BadText.g) pa_nil))) (pa_cons (pe_callB call_isX (by rfl) T.n_isinstance (by decide +kernel) (pa_cons (pv 0) (pa_cons (pe_clName (by rfl) XS.t_BadScheme.g) pa_nil))) (pa_cons (pe_callB call_isX (by rfl) T.n_isinstance (by decide +kernel) (pa_cons (pv 0) (pa_cons (pe_clName (by rfl) XS.t_BadCuts.g) pa_nil))) (pa_cons (pe_callB call_isX (by rfl) T.n_isinstance (by decide +kernel) (pa_cons (pv 0) (pa_cons (pe_clName (by rfl) XS.t_BadWord.g) pa_nil))) pa_nil))))))
 (pss_cons (ps_set (i := 1) sc__law_kinds.nd rfl (Or.inl rfl) (pe_op op_addA (pv 1) (pe_lst (pa_cons (pe_callB call_isX (by rfl) T.n_isinstance (by decide +kernel) (pa_cons (pv 0) (pa_cons (pe_clName (by rfl) XS.t_BadLimit.g) pa_nil))) (pa_cons (pe_callB call_isX (by rfl) T.n_isinstance (by decide +kernel) (pa_cons (pv 0) (pa_cons (pe_clName (by rfl) XS.t_Overlong.g) pa_nil))) (pa_cons (pe_callB call_isX (by rfl) T.n_isinstance (by decide +kernel) (pa_cons (pv 0) (pa_cons (pe_clName (by rfl) XS.t_Busy.g) pa_nil))) pa_nil))))))
 (pss_cons (ps_set (i := 1) sc__law_kinds.nd rfl (Or.inl rfl) (pe_op op_addA (pv 1) (pe_lst (pa_cons (pe_callB call_isX (by rfl) T.n_isinstance (by decide +kernel) (pa_cons (pv 0) (pa_cons (pe_clName (by rfl) XS.t_TooManyEdits.g) pa_nil))) (pa_cons (pe_callB call_isX (by rfl) T.n_isinstance (by decide +kernel) (pa_cons (pv 0) (pa_cons (pe_clName (by rfl) XS.t_NothingToUndo.g) pa_nil))) (pa_cons (pe_callB call_isX (by rfl) T.n_isinstance (by decide +kernel) (pa_cons (pv 0) (pa_cons (pe_clName (by rfl) XS.t_NothingToRedo.g) pa_nil))) pa_nil))))))
 (pss_one (ps_ret (pe_op op_addA (pv 1) (pe_lst (pa_cons (pe_callB call_isX (by rfl) T.n_isinstance (by decide +kernel) (pa_cons (pv 0) (pa_cons (pe_clName (by rfl) XS.t_BadEdits.g) pa_nil))) (pa_cons (pe_callB call_isX (by rfl) T.n_isinstance (by decide +kernel) (pa_cons (pv 0) (pa_cons (pe_clName (by rfl) XS.t_BadEdit.g) pa_nil))) (pa_cons (pe_callB call_isX (by rfl) T.n_isinstance (by decide +kernel) (pa_cons (pv 0) (pa_cons (pe_clName (by rfl) XS.t_Rejected.g) pa_nil))) pa_nil)))))))))),
 (is_seq (is_asg ((if_lst (ia_cons (im_isX XS.t_BadText (im_var 0)) (ia_cons (im_isX XS.t_BadScheme (im_var 0)) (ia_cons (im_isX XS.t_BadCuts (im_var 0)) (ia_cons (im_isX XS.t_BadWord (im_var 0)) ia_nil)))))).im (ig_name 1))
 (is_seq (is_asg (im_op ro_addA ((im_var 1)).w ((if_lst (ia_cons (im_isX XS.t_BadLimit (im_var 0)) (ia_cons (im_isX XS.t_Overlong (im_var 0)) (ia_cons (im_isX XS.t_Busy (im_var 0)) ia_nil))))).w) (ig_name 1))
 (is_seq (is_asg (im_op ro_addA ((im_var 1)).w ((if_lst (ia_cons (im_isX XS.t_TooManyEdits (im_var 0)) (ia_cons (im_isX XS.t_NothingToUndo (im_var 0)) (ia_cons (im_isX XS.t_NothingToRedo (im_var 0)) ia_nil))))).w) (ig_name 1))
 (is_ret (im_op ro_addA ((im_var 1)).w ((if_lst (ia_cons (im_isX XS.t_BadEdits (im_var 0)) (ia_cons (im_isX XS.t_BadEdit (im_var 0)) (ia_cons (im_isX XS.t_Rejected (im_var 0)) ia_nil))))).w)))))⟩
theorem ok__law_kinds_right (T : Txt K mg) {f : Addr} {fd : FuncData} (Fn : Fun K "_law_kinds_right" "_law_kinds_right" s__law_kinds_right f fd) (c__law_kinds : Cal P WW.w K mg base 1 "_law_kinds" ["_law_e"] (spD K 1 m__law_kinds)) (XS : Exs P WW.w K mg base) : FnG P WW.w K mg base 3 f fd ["_law_a"] (spD K 1 m__law_kinds_right) :=
  fnD Fn sc__law_kinds_right (by decide) fun cdv A outer s H E hr gd => ⟨_, (pss_cons (ps_set (i := 1) sc__law_kinds_right.nd rfl (Or.inl rfl) (pe_lst (pa_cons (pe_mkvX XS.v_BadText (hr.mono (by decide)) (pa_cons (pv 0) pa_nil)) (pa_cons (pe_mkvX XS.v_BadScheme (hr.mono (by decide)) (pa_cons (pv 0) pa_nil)) (pa_cons (pe_mkvX XS.v_BadCuts (hr.mono (by decide)) (pa_cons (pv 0) pa_nil)) (pa_cons (pe_mkvX XS.v_BadWord (hr.mono (by decide)) (pa_cons (pv 0) pa_nil)) (pa_cons (pe_mkvX XS.v_BadLimit (hr.mono (by decide)) (pa_cons (pv 0) pa_nil)) (pa_cons (pe_mkvX XS.v_Overlong (hr.mono (by decide)) (pa_cons (pv 0) pa_nil)) (pa_cons (pe_mk0X XS.v_Busy) (pa_cons (pe_mk0X XS.v_TooManyEdits) pa_nil))))))))))
 (pss_cons (ps_set (i := 1) sc__law_kinds_right.nd rfl (Or.inl rfl) (pe_op op_addA (pv 1) (pe_lst (pa_cons (pe_mk0X XS.v_NothingToUndo) (pa_cons (pe_mk0X XS.v_NothingToRedo) (pa_cons (pe_mk0X XS.v_BadEdits) (pa_cons (pe_mkvX XS.v_BadEdit (hr.mono (by decide)) (pa_cons (pv 0) pa_nil)) (pa_cons (pe_mkvX XS.v_Rejected (hr.mono (by decide)) (pa_cons (pv 0) pa_nil)) pa_nil))))))))
 (pss_cons (ps_for PassesOwn.never rfl (pi_range1 (by rfl) T.n_range (pa_cons pe_int pa_nil)) (pg_name (i := 2) sc__law_kinds_right.nd rfl (Or.inr rfl))
 (pss_cons (ps_if (PW.pt (pw_or (pt_cmpR (op_neA hr.units) (pe_callC c__law_kinds hr gd (by rfl) (pa_cons (pe_sub (units1 hr.units) (pv 1) (pv 2)) pa_nil)) (pe_lc (own := [("_law_j", 4)]) (g := (gName 4)) rfl sc__law_kinds_right.nd (pi_range1 (by rfl) T.n_range (pa_cons pe_int pa_nil)) (blkOk_by (own := [("_law_j", 4)]) (N := ["_law_a", "_law_some", "_law_k", "_law_e", "_law_j"]) (sc := defScope s__law_kinds_right) (by decide +kernel)) (fun _ _ _ _ _ => (pg_name (i := 4) sc__law_kinds_right.nd rfl (Or.inl rfl))) (fun _ _ _ _ _ => pts_nil) (fun _ _ _ _ _ => (pe_cmpR (op_eqA hr.units) (pv 4) (pv 2) (nomark _)))) (nomark _)) (pw_or1 (pt_truth (pe_callB call_isX (by rfl) T.n_isinstance (by decide +kernel) (pa_cons (pe_sub (units1 hr.units) (pv 1) (pv 2)) (pa_cons (pe_tyName (by rfl) T.n_LookupError (by decide +kernel)) pa_nil))) (by intro _; rfl)))))
 (pss_one (ps_ret pe_bl))
 pss_nil)
 (pss_one (ps_if (PW.pt (pw_or (pt_not (pt_truth (pe_callB call_isX (by rfl) T.n_isinstance (by decide +kernel) (pa_cons (pe_sub (units1 hr.units) (pv 1) (pv 2)) (pa_cons (pe_clName (by rfl) XS.t_UnitError.g) pa_nil))) (by intro _; rfl))) (pw_or1 (pt_not (pt_truth (pe_callB call_isX (by rfl) T.n_isinstance (by decide +kernel) (pa_cons (pe_sub (units1 hr.units) (pv 1) (pv 2)) (pa_cons (pe_tyName (by rfl) T.n_ValueError (by decide +kernel)) pa_nil))) (by intro _; rfl))))))
 (pss_one (ps_ret pe_bl))
 pss_nil))))
 (pss_cons (ps_for PassesOwn.never rfl (pi_seq (pe_lst (pa_cons (pe_mkvX XS.v_NoCut (hr.mono (by decide)) (pa_cons (pv 0) pa_nil)) (pa_cons (pe_mkvX XS.v_NoVersion (hr.mono (by decide)) (pa_cons (pv 0) pa_nil)) (pa_cons (pe_mk0X XS.v_UnitError) pa_nil))))) (pg_name (i := 3) sc__law_kinds_right.nd rfl (Or.inl rfl))
 (pss_one (ps_if (pt_in (units1 hr.units) pe_bl (pe_callC c__law_kinds hr gd (by rfl) (pa_cons (pv 3) pa_nil)))
 (pss_one (ps_ret pe_bl))
 pss_nil)))
 (pss_cons (ps_for PassesOwn.never rfl (pi_seq (pe_lst (pa_cons (pe_mkvX XS.v_NoCut (hr.mono (by decide)) (pa_cons (pv 0) pa_nil)) (pa_cons (pe_mkvX XS.v_NoVersion (hr.mono (by decide)) (pa_cons (pv 0) pa_nil)) pa_nil)))) (pg_name (i := 3) sc__law_kinds_right.nd rfl (Or.inl rfl))
 (pss_one (ps_if (PW.pt (pw_or (pt_not (pt_truth (pe_callB call_isX (by rfl) T.n_isinstance (by decide +kernel) (pa_cons (pv 3) (pa_cons (pe_tyName (by rfl) T.n_LookupError (by decide +kernel)) pa_nil))) (by intro _; rfl))) (pw_or (pt_truth (pe_callB call_isX (by rfl) T.n_isinstance (by decide +kernel) (pa_cons (pv 3) (pa_cons (pe_tyName (by rfl) T.n_ValueError (by decide +kernel)) pa_nil))) (by intro _; rfl)) (pw_or1 (pt_truth (pe_callB call_isX (by rfl) T.n_isinstance (by decide +kernel) (pa_cons (pv 3) (pa_cons (pe_clName (by rfl) XS.t_UnitError.g) pa_nil))) (by intro _; rfl))))))
 (pss_one (ps_ret pe_bl))
 pss_nil)))
 (pss_cons (ps_if (PW.pt (pw_or (pt_truth (pe_callB call_isX (by rfl) T.n_isinstance (by decide +kernel) (pa_cons (pe_mk0X XS.v_UnitError) (pa_cons (pe_tyName (by rfl) T.n_LookupError (by decide +kernel)) pa_nil))) (by intro _; rfl)) (pw_or1 (pt_not (pt_truth (pe_callB call_isX (by rfl) T.n_isinstance (by decide +kernel) (pa_cons (pe_mk0X XS.v_UnitError) (pa_cons (pe_tyName (by rfl) T.n_ValueError (by decide +kernel)) pa_nil))) (by intro _; rfl))))))
 (pss_one (ps_ret pe_bl))
 pss_nil)
 (pss_one (ps_ret (L2.pe_and (pe_not (pe_callB call_isX (by rfl) T.n_isinstance (by decide +kernel) (pa_cons (pe_mkvX XS.v_NoCut (hr.mono (by decide)) (pa_cons (pv 0) pa_nil)) (pa_cons (pe_clName (by rfl) XS.t_NoVersion.g) pa_nil)))) (pe_one (pe_not (pe_callB call_isX (by rfl) T.n_isinstance (by decide +kernel) (pa_cons (pe_mkvX XS.v_NoVersion (hr.mono (by decide)) (pa_cons (pv 0) pa_nil)) (pa_cons (pe_clName (by rfl) XS.t_NoCut.g) pa_nil)))))))))))))),
 (is_seq (is_asg ((if_lst (ia_cons (im_mkx XS.v_BadText.cl (im_var 0)) (ia_cons (im_mkx XS.v_BadScheme.cl (im_var 0)) (ia_cons (im_mkx XS.v_BadCuts.cl (im_var 0)) (ia_cons (im_mkx XS.v_BadWord.cl (im_var 0)) (ia_cons (im_mkx XS.v_BadLimit.cl (im_var 0)) (ia_cons (im_mkx XS.v_Overlong.cl (im_var 0)) (ia_cons (im_mk0 XS.v_Busy.cl) (ia_cons (im_mk0 XS.v_TooManyEdits.cl) ia_nil)))))))))).im (ig_name 1))
 (is_seq (is_asg (im_op ro_addA ((im_var 1)).w ((if_lst (ia_cons (im_mk0 XS.v_NothingToUndo.cl) (ia_cons (im_mk0 XS.v_NothingToRedo.cl) (ia_cons (im_mk0 XS.v_BadEdits.cl) (ia_cons (im_mkx XS.v_BadEdit.cl (im_var 0)) (ia_cons (im_mkx XS.v_Rejected.cl (im_var 0)) ia_nil))))))).w) (ig_name 1))
 (is_seq (is_for (ii_range1 (iaw_cons (im_int).w iaw_nil)) (ig_name 2)
 (is_seq (is_if (it_or (it_test (im_op ro_ne ((im_call (ia_cons (im_sub ((im_var 1)).w ((im_var 2)).w) ia_nil) (an_cons an_nil))).w ((if_comp (vs := [4]) (ii_range1 (iaw_cons (im_int).w iaw_nil)) (ig_name 4) it_yes (im_op ro_eq ((im_var 4)).w ((im_var 2)).w) (by decide))).w)) (it_truth ((im_isB XS.t_LookupError (im_sub ((im_var 1)).w ((im_var 2)).w))).w))
 (is_ret im_bl)
 is_next)
 (is_if (it_or (it_not (it_truth ((im_isX XS.t_UnitError (im_sub ((im_var 1)).w ((im_var 2)).w))).w)) (it_not (it_truth ((im_isB XS.t_ValueError (im_sub ((im_var 1)).w ((im_var 2)).w))).w)))
 (is_ret im_bl)
 is_next)))
 (is_seq (is_for (ii_seq ((if_lst (ia_cons (im_mkx XS.v_NoCut.cl (im_var 0)) (ia_cons (im_mkx XS.v_NoVersion.cl (im_var 0)) (ia_cons (im_mk0 XS.v_UnitError.cl) ia_nil))))).im) (ig_name 3)
 (is_if (it_test (im_in (im_bl).w ((im_call (ia_cons (im_var 3) ia_nil) (an_cons an_nil))).w))
 (is_ret im_bl)
 is_next))
 (is_seq (is_for (ii_seq ((if_lst (ia_cons (im_mkx XS.v_NoCut.cl (im_var 0)) (ia_cons (im_mkx XS.v_NoVersion.cl (im_var 0)) ia_nil)))).im) (ig_name 3)
 (is_if (it_or (it_not (it_truth ((im_isB XS.t_LookupError (im_var 3))).w)) (it_or (it_truth ((im_isB XS.t_ValueError (im_var 3))).w) (it_truth ((im_isX XS.t_UnitError (im_var 3))).w)))
 (is_ret im_bl)
 is_next))
 (is_seq (is_if (it_or (it_truth ((im_isB XS.t_LookupError (im_mk0 XS.v_UnitError.cl))).w) (it_not (it_truth ((im_isB XS.t_ValueError (im_mk0 XS.v_UnitError.cl))).w)))
 (is_ret im_bl)
 is_next)
 (is_ret (im_andV (im_notV (im_isX XS.t_NoVersion (im_mkx XS.v_NoCut.cl (im_var 0)))) (im_notV (im_isX XS.t_NoCut (im_mkx XS.v_NoVersion.cl (im_var 0))))))))))))⟩
theorem ok_law (T : Txt K mg) {f : Addr} {fd : FuncData} (Fn : Fun K "law" "law" s_law f fd) (c__law_deck : Cal P WW.w K mg base 1 "_law_deck" ["_law_script"] (spDeck K)) (c__law_value : Cal P WW.w K mg base 3 "_law_value" ["_law_deck_here"] (spD K 1 m__law_value)) (c__law_kinds_right : Cal P WW.w K mg base 3 "_law_kinds_right" ["_law_a"] (spD K 1 m__law_kinds_right)) (c__law_fields : Cal P WW.w K mg base 3 "_law_fields" ["_law_a"] (spD K 1 m__law_fields)) (XS : Exs P WW.w K mg base) (hb : ∀ ns : List Int, ns.length ≤ 63 → ∃ s1, b_law (env0 7) ⟨ns.map absI, 0, []⟩ = some (.rt (.bl true), s1)) : FnG P WW.w K mg base 4 f fd ["_law_script"] (spLaw K) :=
  fn_law Fn sc_law (by decide) rfl hb fun cdv A outer s H E hr gd => ⟨_, pss_cons (ps_set (i := 1) sc_law.nd rfl (Or.inl rfl) (pe_callC c__law_deck hr gd (by rfl) (pa_cons (pv 0) pa_nil)))
 (pss_cons (ps_for PassesOwn.never rfl (pi_range1 (by rfl) T.n_range (pa_cons pe_int pa_nil)) (pg_name (i := 2) sc_law.nd rfl (Or.inl rfl))
 (pss_cons (ps_set (i := 3) sc_law.nd rfl (Or.inl rfl) (pe_callC c__law_value hr gd (by rfl) (pa_cons (pv 1) pa_nil)))
 (pss_one (ps_if (PW.pt (pw_or (pt_not (pt_truth (pe_callC c__law_kinds_right hr gd (by rfl) (pa_cons (pv 3) pa_nil)) (by intro _; rfl))) (pw_or1 (pt_cmpR (op_neA hr.units) (pe_lc (own := [("_law_one_here", 6)]) (g := (gName 6)) rfl sc_law.nd (pi_seq (pe_callC c__law_fields hr gd (by rfl) (pa_cons (pv 3) pa_nil))) (blkOk_by (own := [("_law_one_here", 6)]) (N := ["_law_script", "_law_deck_here", "_law_turn", "_law_a", "_law_value_here", "_law_found", "_law_one_here"]) (sc := defScope s_law) (by decide +kernel)) (fun _ _ _ _ _ => (pg_name (i := 6) sc_law.nd rfl (Or.inl rfl))) (fun _ _ _ _ _ => pts_nil) (fun _ _ _ _ _ => (pe_callB (call_reprX gd hr.units) (by rfl) T.n_repr (by decide +kernel) (pa_cons (pv 6) pa_nil)))) (pe_op op_rep (pe_lst (pa_cons (pe_callB (call_reprX gd hr.units) (by rfl) T.n_repr (by decide +kernel) (pa_cons (pv 3) pa_nil)) pa_nil)) pe_int) (nomark _)))))
 (pss_one (ps_ret pe_bl))
 pss_nil))))
 (pss_cons (ps_set (i := 4) sc_law.nd rfl (Or.inl rfl) (pe_lst (pa_cons pe_int pa_nil)))
 (pss_cons (ps_set (i := 5) sc_law.nd rfl (Or.inl rfl) (pe_callC c__law_fields hr gd (by rfl) (pa_cons (pv 4) pa_nil)))
 (pss_cons (ps_expr (pe_bm PySem.F.plainAttrs_list PySem.F.slot_list_append PySem.F.type_list_append mt_append (pv 4) (pa_cons pe_int pa_nil)))
 (pss_cons (ps_if (pt_cmpR (op_neA hr.units) (pe_lc (own := [("_law_one_here", 6)]) (g := (gName 6)) rfl sc_law.nd (pi_seq (pv 5)) (blkOk_by (own := [("_law_one_here", 6)]) (N := ["_law_script", "_law_deck_here", "_law_turn", "_law_a", "_law_value_here", "_law_found", "_law_one_here"]) (sc := defScope s_law) (by decide +kernel)) (fun _ _ _ _ _ => (pg_name (i := 6) sc_law.nd rfl (Or.inl rfl))) (fun _ _ _ _ _ => (pts_one (pt_cmpR (op_neA hr.units) (pv 6) (pe_lst (pa_cons pe_int (pa_cons pe_int pa_nil))) (nomark _)))) (fun _ _ _ _ _ => (pv 6))) (pe_lst pa_nil) (nomark _))
 (pss_one (ps_ret pe_bl))
 pss_nil)
 (pss_cons (ps_set (i := 5) sc_law.nd rfl (Or.inl rfl) (pe_lst (pa_cons (pe_gint (by rfl) T.c_MAX_LETTERS) (pa_cons (pe_gint (by rfl) T.c_MAX_STATES) (pa_cons (pe_gint (by rfl) T.c_MAX_COUNT) (pa_cons (pe_gint (by rfl) T.c_MAX_MOST) (pa_cons (pe_gint (by rfl) T.c_MAX_CUT) (pa_cons (pe_gint (by rfl) T.c_MAX_CUTS) (pa_cons (pe_gint (by rfl) T.c_MAX_LENGTH) (pa_cons (pe_gint (by rfl) T.c_MAX_EDITS) (pa_cons (pe_gint (by rfl) T.c_BATCH) pa_nil)))))))))))
 (pss_cons (ps_set (i := 5) sc_law.nd rfl (Or.inl rfl) (pe_op op_addA (pv 5) (pe_lst (pa_cons (pe_gint (by rfl) T.c_MAX_PARTED) (pa_cons (pe_gint (by rfl) T.c_MAX_ROAD) pa_nil)))))
 (pss_one (ps_ret (pe_cmpR (op_eqA hr.units) (pe_callB (call_reprX gd hr.units) (by rfl) T.n_repr (by decide +kernel) (pa_cons (pe_op op_addA (pv 5) (pe_lst (pa_cons (pe_conX XS.k_Bench_MOST_EDITS) (pa_cons (pe_conX XS.k_KeepBench_MOST_EDITS) pa_nil)))) pa_nil)) (pe_callB (call_reprX gd hr.units) (by rfl) T.n_repr (by decide +kernel) (pa_cons (pe_lst (pa_cons pe_int (pa_cons pe_int (pa_cons pe_int (pa_cons pe_int (pa_cons pe_int (pa_cons pe_int (pa_cons pe_int (pa_cons pe_int (pa_cons pe_int (pa_cons pe_int (pa_cons pe_int (pa_cons pe_int (pa_cons pe_int pa_nil)))))))))))))) pa_nil)) (nomark _))))))))))),
 (is_seq (is_for (ii_range1 (iaw_cons (im_int).w iaw_nil)) (ig_name 2)
 (is_seq (is_asg (im_call (ia_cons (im_var 1) ia_nil) (an_cons an_nil)) (ig_name 3))
 (is_if (it_or (it_not (it_truth ((im_call (ia_cons (im_var 3) ia_nil) (an_cons an_nil))).w)) (it_test (im_op ro_ne ((if_comp (vs := [6]) (ii_seq (im_call (ia_cons (im_var 3) ia_nil) (an_cons an_nil))) (ig_name 6) it_yes (im_cb rc_reprX (iaw_cons ((im_var 6)).w iaw_nil)) (by decide))).w ((im_opF rof_mul ((if_lst (ia_cons (im_cb rc_reprX (iaw_cons ((im_var 3)).w iaw_nil)) ia_nil))).w (im_int).w)).w)))
 (is_ret im_bl)
 is_next)))
 (is_seq (is_asg ((if_lst (ia_cons im_int ia_nil))).sto (ig_name 4))
 (is_seq (is_asg (im_call (ia_cons (im_var 4) ia_nil) (an_cons an_nil)) (ig_name 5))
 (is_seq (is_sapp (im_var 4) im_int)
 (is_seq (is_if (it_test (im_op ro_ne ((if_comp (vs := [6]) (ii_seq (im_var 5)) (ig_name 6) (it_test (im_op ro_ne ((im_var 6)).w ((if_lst (ia_cons im_int (ia_cons im_int ia_nil)))).w)) (im_var 6) (by decide))).w ((if_lst ia_nil)).w))
 (is_ret im_bl)
 is_next)
 (is_seq (is_asg ((if_lst (ia_cons im_int (ia_cons im_int (ia_cons im_int (ia_cons im_int (ia_cons im_int (ia_cons im_int (ia_cons im_int (ia_cons im_int (ia_cons im_int ia_nil))))))))))).im (ig_name 5))
 (is_seq (is_asg (im_op ro_addA ((im_var 5)).w ((if_lst (ia_cons im_int (ia_cons im_int ia_nil)))).w) (ig_name 5))
 (is_ret (im_op ro_eq ((im_cb rc_reprX (iaw_cons ((im_op ro_addA ((im_var 5)).w ((if_lst (ia_cons (im_conX XS.k_Bench_MOST_EDITS) (ia_cons (im_conX XS.k_KeepBench_MOST_EDITS) ia_nil)))).w)).w iaw_nil))).w ((im_cb rc_reprX (iaw_cons ((if_lst (ia_cons im_int (ia_cons im_int (ia_cons im_int (ia_cons im_int (ia_cons im_int (ia_cons im_int (ia_cons im_int (ia_cons im_int (ia_cons im_int (ia_cons im_int (ia_cons im_int (ia_cons im_int (ia_cons im_int ia_nil))))))))))))))).w iaw_nil))).w)))))))))⟩
end
/-! ### what the top has written -/
theorem all_mk {l : PySem.W.OpenLaw} (ww : WW) {K : Fg} {h : Heap} {mg : Str → Option Value} {fa : Addr} (hb : ∀ ns : List Int, ns.length ≤ 63 → ∃ s1, b_law (env0 7) ⟨ns.map absI, 0, []⟩ = some (.rt (.bl true), s1)) (X : K.In h) (G : h.Ns mainGlobals mg) (hfa : mg "law" = some (.ref fa))
    {f__law_deck : Addr} {odx0 anx0 : Option Addr} {slx0 : Array (Option Value)} {ocx0 kVx0 dcx0 pmx0 cdx0 ctx0 : Value} (ax0 : PySem.W.nsIn K mainGlobals "_law_deck" = some (some (.ref f__law_deck))) (lx0 : K.lookup f__law_deck = some ⟨ocx0, odx0, .func (PySem.W.fnOf "_law_deck" "_law_deck" (defArgs s__law_deck) (defBody s__law_deck) (defScope s__law_deck) .none kVx0 dcx0 pmx0 anx0 cdx0 ctx0), slx0⟩) (ccx0 : PySem.W.codeIn K cdx0 "_law_deck" = true) (kx0 : PySem.W.keepIn K (.ref f__law_deck) = true)
    {f__law_fields : Addr} {odx1 anx1 : Option Addr} {slx1 : Array (Option Value)} {ocx1 kVx1 dcx1 pmx1 cdx1 ctx1 : Value} (ax1 : PySem.W.nsIn K mainGlobals "_law_fields" = some (some (.ref f__law_fields))) (lx1 : K.lookup f__law_fields = some ⟨ocx1, odx1, .func (PySem.W.fnOf "_law_fields" "_law_fields" (defArgs s__law_fields) (defBody s__law_fields) (defScope s__law_fields) .none kVx1 dcx1 pmx1 anx1 cdx1 ctx1), slx1⟩) (ccx1 : PySem.W.codeIn K cdx1 "_law_fields" = true) (kx1 : PySem.W.keepIn K (.ref f__law_fields) = true)
    {f__law_draw : Addr} {odx2 anx2 : Option Addr} {slx2 : Array (Option Value)} {ocx2 kVx2 dcx2 pmx2 cdx2 ctx2 : Value} (ax2 : PySem.W.nsIn K mainGlobals "_law_draw" = some (some (.ref f__law_draw))) (lx2 : K.lookup f__law_draw = some ⟨ocx2, odx2, .func (PySem.W.fnOf "_law_draw" "_law_draw" (defArgs s__law_draw) (defBody s__law_draw) (defScope s__law_draw) .none kVx2 dcx2 pmx2 anx2 cdx2 ctx2), slx2⟩) (ccx2 : PySem.W.codeIn K cdx2 "_law_draw" = true) (kx2 : PySem.W.keepIn K (.ref f__law_draw) = true)
    {f__law_one : Addr} {odx3 anx3 : Option Addr} {slx3 : Array (Option Value)} {ocx3 kVx3 dcx3 pmx3 cdx3 ctx3 : Value} (ax3 : PySem.W.nsIn K mainGlobals "_law_one" = some (some (.ref f__law_one))) (lx3 : K.lookup f__law_one = some ⟨ocx3, odx3, .func (PySem.W.fnOf "_law_one" "_law_one" (defArgs s__law_one) (defBody s__law_one) (defScope s__law_one) .none kVx3 dcx3 pmx3 anx3 cdx3 ctx3), slx3⟩) (ccx3 : PySem.W.codeIn K cdx3 "_law_one" = true) (kx3 : PySem.W.keepIn K (.ref f__law_one) = true)
    {f__law_value : Addr} {odx4 anx4 : Option Addr} {slx4 : Array (Option Value)} {ocx4 kVx4 dcx4 pmx4 cdx4 ctx4 : Value} (ax4 : PySem.W.nsIn K mainGlobals "_law_value" = some (some (.ref f__law_value))) (lx4 : K.lookup f__law_value = some ⟨ocx4, odx4, .func (PySem.W.fnOf "_law_value" "_law_value" (defArgs s__law_value) (defBody s__law_value) (defScope s__law_value) .none kVx4 dcx4 pmx4 anx4 cdx4 ctx4), slx4⟩) (ccx4 : PySem.W.codeIn K cdx4 "_law_value" = true) (kx4 : PySem.W.keepIn K (.ref f__law_value) = true)
    {f__law_kinds : Addr} {odx5 anx5 : Option Addr} {slx5 : Array (Option Value)} {ocx5 kVx5 dcx5 pmx5 cdx5 ctx5 : Value} (ax5 : PySem.W.nsIn K mainGlobals "_law_kinds" = some (some (.ref f__law_kinds))) (lx5 : K.lookup f__law_kinds = some ⟨ocx5, odx5, .func (PySem.W.fnOf "_law_kinds" "_law_kinds" (defArgs s__law_kinds) (defBody s__law_kinds) (defScope s__law_kinds) .none kVx5 dcx5 pmx5 anx5 cdx5 ctx5), slx5⟩) (ccx5 : PySem.W.codeIn K cdx5 "_law_kinds" = true) (kx5 : PySem.W.keepIn K (.ref f__law_kinds) = true)
    {f__law_kinds_right : Addr} {odx6 anx6 : Option Addr} {slx6 : Array (Option Value)} {ocx6 kVx6 dcx6 pmx6 cdx6 ctx6 : Value} (ax6 : PySem.W.nsIn K mainGlobals "_law_kinds_right" = some (some (.ref f__law_kinds_right))) (lx6 : K.lookup f__law_kinds_right = some ⟨ocx6, odx6, .func (PySem.W.fnOf "_law_kinds_right" "_law_kinds_right" (defArgs s__law_kinds_right) (defBody s__law_kinds_right) (defScope s__law_kinds_right) .none kVx6 dcx6 pmx6 anx6 cdx6 ctx6), slx6⟩) (ccx6 : PySem.W.codeIn K cdx6 "_law_kinds_right" = true) (kx6 : PySem.W.keepIn K (.ref f__law_kinds_right) = true)
    {f_law : Addr} {odx7 anx7 : Option Addr} {slx7 : Array (Option Value)} {ocx7 kVx7 dcx7 pmx7 cdx7 ctx7 : Value} (ax7 : PySem.W.nsIn K mainGlobals "law" = some (some (.ref f_law))) (lx7 : K.lookup f_law = some ⟨ocx7, odx7, .func (PySem.W.fnOf "law" "law" (defArgs s_law) (defBody s_law) (defScope s_law) .none kVx7 dcx7 pmx7 anx7 cdx7 ctx7), slx7⟩) (ccx7 : PySem.W.codeIn K cdx7 "law" = true) (kx7 : PySem.W.keepIn K (.ref f_law) = true)
    {C_UnitError : Addr} (aC_UnitError : PySem.W.nsIn K mainGlobals "UnitError" = some (some (.ref C_UnitError))) (br_UnitError : PySem.W.readsIn K C_UnitError (.type "type") = true) (bg_UnitError : PySem.W.specialIn K (.ref C_UnitError) "__getattribute__" = some (some (.builtin "type.__getattribute__"))) (au_UnitError : PySem.W.findCls K (.ref C_UnitError) (.type "type") "__init__" = some (.val (.builtin "ValueError.__init__")))
    {C_BadText : Addr} {xn_BadText xq_BadText : Str} {xN_BadText : Addr} {xs_BadText xu_BadText : List Value} {xo_BadText : List Str} {xa_BadText : Bool} {xc_BadText : Option Bool} {xd_BadText : Option Addr} {m0_BadText m1_BadText m2_BadText m3_BadText m5_BadText : Option Value}
    (aC_BadText : PySem.W.nsIn K mainGlobals "BadText" = some (some (.ref C_BadText))) (xL_BadText : K.lookup C_BadText = some (excClassObj xn_BadText xq_BadText C_BadText xN_BadText xs_BadText [.ref C_UnitError, .type "ValueError", .type "Exception", .type "BaseException", .type "object"] true xo_BadText xu_BadText xa_BadText xc_BadText xd_BadText m0_BadText m1_BadText m2_BadText m3_BadText m5_BadText "ValueError.__new__"))
    (sa_BadText : PySem.W.findIn K (.ref C_BadText) "__setattr__" = some (some (.builtin "object.__setattr__"))) (ga_BadText : PySem.W.findIn K (.ref C_BadText) "__getattribute__" = some (some (.builtin "BaseException.__getattribute__"))) (gg_BadText : PySem.W.findIn K (.ref C_BadText) "__getattr__" = some none) (no_BadText : PySem.W.findIn K (.ref C_BadText) "line" = some none) (hd_BadText : PySem.W.hasDictIn K C_BadText = true) (kc_BadText : PySem.W.keepIn K (.ref C_BadText) = true) (ex_BadText : PySem.W.subIn K (.ref C_BadText) (.type "BaseException") = some true) (ty_BadText : PySem.W.typeIn K (.ref C_BadText) = some (.type "type")) (ic_BadText : PySem.W.isClsIn K C_BadText = true)
    {f_BadText : Addr} {yd_BadText yn_BadText : Option Addr} {yl_BadText : Array (Option Value)} {yo_BadText yk_BadText yc_BadText yp_BadText ye_BadText yt_BadText : Value} (ai_BadText : PySem.W.findIn K (.ref C_BadText) "__init__" = some (some (.ref f_BadText))) (ti_BadText : PySem.W.typeIn K (.ref f_BadText) = some (.type "function")) (li_BadText : K.lookup f_BadText = some ⟨yo_BadText, yd_BadText, .func (PySem.W.fnOf "__init__" "BadText.__init__" (defArgs s_BadText___init__) (defBody s_BadText___init__) (defScope s_BadText___init__) .none yk_BadText yc_BadText yp_BadText yn_BadText ye_BadText yt_BadText), yl_BadText⟩) (ci_BadText : PySem.W.codeIn K ye_BadText "BadText.__init__" = true) (ki_BadText : PySem.W.keepIn K (.ref f_BadText) = true)
    {C_BadScheme : Addr} {xn_BadScheme xq_BadScheme : Str} {xN_BadScheme : Addr} {xs_BadScheme xu_BadScheme : List Value} {xo_BadScheme : List Str} {xa_BadScheme : Bool} {xc_BadScheme : Option Bool} {xd_BadScheme : Option Addr} {m0_BadScheme m1_BadScheme m2_BadScheme m3_BadScheme m5_BadScheme : Option Value}
    (aC_BadScheme : PySem.W.nsIn K mainGlobals "BadScheme" = some (some (.ref C_BadScheme))) (xL_BadScheme : K.lookup C_BadScheme = some (excClassObj xn_BadScheme xq_BadScheme C_BadScheme xN_BadScheme xs_BadScheme [.ref C_UnitError, .type "ValueError", .type "Exception", .type "BaseException", .type "object"] true xo_BadScheme xu_BadScheme xa_BadScheme xc_BadScheme xd_BadScheme m0_BadScheme m1_BadScheme m2_BadScheme m3_BadScheme m5_BadScheme "ValueError.__new__"))
    (sa_BadScheme : PySem.W.findIn K (.ref C_BadScheme) "__setattr__" = some (some (.builtin "object.__setattr__"))) (ga_BadScheme : PySem.W.findIn K (.ref C_BadScheme) "__getattribute__" = some (some (.builtin "BaseException.__getattribute__"))) (gg_BadScheme : PySem.W.findIn K (.ref C_BadScheme) "__getattr__" = some none) (no_BadScheme : PySem.W.findIn K (.ref C_BadScheme) "error" = some none) (hd_BadScheme : PySem.W.hasDictIn K C_BadScheme = true) (kc_BadScheme : PySem.W.keepIn K (.ref C_BadScheme) = true) (ex_BadScheme : PySem.W.subIn K (.ref C_BadScheme) (.type "BaseException") = some true) (ty_BadScheme : PySem.W.typeIn K (.ref C_BadScheme) = some (.type "type")) (ic_BadScheme : PySem.W.isClsIn K C_BadScheme = true)
    {f_BadScheme : Addr} {yd_BadScheme yn_BadScheme : Option Addr} {yl_BadScheme : Array (Option Value)} {yo_BadScheme yk_BadScheme yc_BadScheme yp_BadScheme ye_BadScheme yt_BadScheme : Value} (ai_BadScheme : PySem.W.findIn K (.ref C_BadScheme) "__init__" = some (some (.ref f_BadScheme))) (ti_BadScheme : PySem.W.typeIn K (.ref f_BadScheme) = some (.type "function")) (li_BadScheme : K.lookup f_BadScheme = some ⟨yo_BadScheme, yd_BadScheme, .func (PySem.W.fnOf "__init__" "BadScheme.__init__" (defArgs s_BadScheme___init__) (defBody s_BadScheme___init__) (defScope s_BadScheme___init__) .none yk_BadScheme yc_BadScheme yp_BadScheme yn_BadScheme ye_BadScheme yt_BadScheme), yl_BadScheme⟩) (ci_BadScheme : PySem.W.codeIn K ye_BadScheme "BadScheme.__init__" = true) (ki_BadScheme : PySem.W.keepIn K (.ref f_BadScheme) = true)
    {C_BadCuts : Addr} {xn_BadCuts xq_BadCuts : Str} {xN_BadCuts : Addr} {xs_BadCuts xu_BadCuts : List Value} {xo_BadCuts : List Str} {xa_BadCuts : Bool} {xc_BadCuts : Option Bool} {xd_BadCuts : Option Addr} {m0_BadCuts m1_BadCuts m2_BadCuts m3_BadCuts m5_BadCuts : Option Value}
    (aC_BadCuts : PySem.W.nsIn K mainGlobals "BadCuts" = some (some (.ref C_BadCuts))) (xL_BadCuts : K.lookup C_BadCuts = some (excClassObj xn_BadCuts xq_BadCuts C_BadCuts xN_BadCuts xs_BadCuts [.ref C_UnitError, .type "ValueError", .type "Exception", .type "BaseException", .type "object"] true xo_BadCuts xu_BadCuts xa_BadCuts xc_BadCuts xd_BadCuts m0_BadCuts m1_BadCuts m2_BadCuts m3_BadCuts m5_BadCuts "ValueError.__new__"))
    (sa_BadCuts : PySem.W.findIn K (.ref C_BadCuts) "__setattr__" = some (some (.builtin "object.__setattr__"))) (ga_BadCuts : PySem.W.findIn K (.ref C_BadCuts) "__getattribute__" = some (some (.builtin "BaseException.__getattribute__"))) (gg_BadCuts : PySem.W.findIn K (.ref C_BadCuts) "__getattr__" = some none) (no_BadCuts : PySem.W.findIn K (.ref C_BadCuts) "error" = some none) (hd_BadCuts : PySem.W.hasDictIn K C_BadCuts = true) (kc_BadCuts : PySem.W.keepIn K (.ref C_BadCuts) = true) (ex_BadCuts : PySem.W.subIn K (.ref C_BadCuts) (.type "BaseException") = some true) (ty_BadCuts : PySem.W.typeIn K (.ref C_BadCuts) = some (.type "type")) (ic_BadCuts : PySem.W.isClsIn K C_BadCuts = true)
    {f_BadCuts : Addr} {yd_BadCuts yn_BadCuts : Option Addr} {yl_BadCuts : Array (Option Value)} {yo_BadCuts yk_BadCuts yc_BadCuts yp_BadCuts ye_BadCuts yt_BadCuts : Value} (ai_BadCuts : PySem.W.findIn K (.ref C_BadCuts) "__init__" = some (some (.ref f_BadCuts))) (ti_BadCuts : PySem.W.typeIn K (.ref f_BadCuts) = some (.type "function")) (li_BadCuts : K.lookup f_BadCuts = some ⟨yo_BadCuts, yd_BadCuts, .func (PySem.W.fnOf "__init__" "BadCuts.__init__" (defArgs s_BadCuts___init__) (defBody s_BadCuts___init__) (defScope s_BadCuts___init__) .none yk_BadCuts yc_BadCuts yp_BadCuts yn_BadCuts ye_BadCuts yt_BadCuts), yl_BadCuts⟩) (ci_BadCuts : PySem.W.codeIn K ye_BadCuts "BadCuts.__init__" = true) (ki_BadCuts : PySem.W.keepIn K (.ref f_BadCuts) = true)
    {C_BadWord : Addr} {xn_BadWord xq_BadWord : Str} {xN_BadWord : Addr} {xs_BadWord xu_BadWord : List Value} {xo_BadWord : List Str} {xa_BadWord : Bool} {xc_BadWord : Option Bool} {xd_BadWord : Option Addr} {m0_BadWord m1_BadWord m2_BadWord m3_BadWord m5_BadWord : Option Value}
    (aC_BadWord : PySem.W.nsIn K mainGlobals "BadWord" = some (some (.ref C_BadWord))) (xL_BadWord : K.lookup C_BadWord = some (excClassObj xn_BadWord xq_BadWord C_BadWord xN_BadWord xs_BadWord [.ref C_UnitError, .type "ValueError", .type "Exception", .type "BaseException", .type "object"] true xo_BadWord xu_BadWord xa_BadWord xc_BadWord xd_BadWord m0_BadWord m1_BadWord m2_BadWord m3_BadWord m5_BadWord "ValueError.__new__"))
    (sa_BadWord : PySem.W.findIn K (.ref C_BadWord) "__setattr__" = some (some (.builtin "object.__setattr__"))) (ga_BadWord : PySem.W.findIn K (.ref C_BadWord) "__getattribute__" = some (some (.builtin "BaseException.__getattribute__"))) (gg_BadWord : PySem.W.findIn K (.ref C_BadWord) "__getattr__" = some none) (no_BadWord : PySem.W.findIn K (.ref C_BadWord) "word" = some none) (hd_BadWord : PySem.W.hasDictIn K C_BadWord = true) (kc_BadWord : PySem.W.keepIn K (.ref C_BadWord) = true) (ex_BadWord : PySem.W.subIn K (.ref C_BadWord) (.type "BaseException") = some true) (ty_BadWord : PySem.W.typeIn K (.ref C_BadWord) = some (.type "type")) (ic_BadWord : PySem.W.isClsIn K C_BadWord = true)
    {f_BadWord : Addr} {yd_BadWord yn_BadWord : Option Addr} {yl_BadWord : Array (Option Value)} {yo_BadWord yk_BadWord yc_BadWord yp_BadWord ye_BadWord yt_BadWord : Value} (ai_BadWord : PySem.W.findIn K (.ref C_BadWord) "__init__" = some (some (.ref f_BadWord))) (ti_BadWord : PySem.W.typeIn K (.ref f_BadWord) = some (.type "function")) (li_BadWord : K.lookup f_BadWord = some ⟨yo_BadWord, yd_BadWord, .func (PySem.W.fnOf "__init__" "BadWord.__init__" (defArgs s_BadWord___init__) (defBody s_BadWord___init__) (defScope s_BadWord___init__) .none yk_BadWord yc_BadWord yp_BadWord yn_BadWord ye_BadWord yt_BadWord), yl_BadWord⟩) (ci_BadWord : PySem.W.codeIn K ye_BadWord "BadWord.__init__" = true) (ki_BadWord : PySem.W.keepIn K (.ref f_BadWord) = true)
    {C_BadLimit : Addr} {xn_BadLimit xq_BadLimit : Str} {xN_BadLimit : Addr} {xs_BadLimit xu_BadLimit : List Value} {xo_BadLimit : List Str} {xa_BadLimit : Bool} {xc_BadLimit : Option Bool} {xd_BadLimit : Option Addr} {m0_BadLimit m1_BadLimit m2_BadLimit m3_BadLimit m5_BadLimit : Option Value}
    (aC_BadLimit : PySem.W.nsIn K mainGlobals "BadLimit" = some (some (.ref C_BadLimit))) (xL_BadLimit : K.lookup C_BadLimit = some (excClassObj xn_BadLimit xq_BadLimit C_BadLimit xN_BadLimit xs_BadLimit [.ref C_UnitError, .type "ValueError", .type "Exception", .type "BaseException", .type "object"] true xo_BadLimit xu_BadLimit xa_BadLimit xc_BadLimit xd_BadLimit m0_BadLimit m1_BadLimit m2_BadLimit m3_BadLimit m5_BadLimit "ValueError.__new__"))
    (sa_BadLimit : PySem.W.findIn K (.ref C_BadLimit) "__setattr__" = some (some (.builtin "object.__setattr__"))) (ga_BadLimit : PySem.W.findIn K (.ref C_BadLimit) "__getattribute__" = some (some (.builtin "BaseException.__getattribute__"))) (gg_BadLimit : PySem.W.findIn K (.ref C_BadLimit) "__getattr__" = some none) (no_BadLimit : PySem.W.findIn K (.ref C_BadLimit) "limit" = some none) (hd_BadLimit : PySem.W.hasDictIn K C_BadLimit = true) (kc_BadLimit : PySem.W.keepIn K (.ref C_BadLimit) = true) (ex_BadLimit : PySem.W.subIn K (.ref C_BadLimit) (.type "BaseException") = some true) (ty_BadLimit : PySem.W.typeIn K (.ref C_BadLimit) = some (.type "type")) (ic_BadLimit : PySem.W.isClsIn K C_BadLimit = true)
    {f_BadLimit : Addr} {yd_BadLimit yn_BadLimit : Option Addr} {yl_BadLimit : Array (Option Value)} {yo_BadLimit yk_BadLimit yc_BadLimit yp_BadLimit ye_BadLimit yt_BadLimit : Value} (ai_BadLimit : PySem.W.findIn K (.ref C_BadLimit) "__init__" = some (some (.ref f_BadLimit))) (ti_BadLimit : PySem.W.typeIn K (.ref f_BadLimit) = some (.type "function")) (li_BadLimit : K.lookup f_BadLimit = some ⟨yo_BadLimit, yd_BadLimit, .func (PySem.W.fnOf "__init__" "BadLimit.__init__" (defArgs s_BadLimit___init__) (defBody s_BadLimit___init__) (defScope s_BadLimit___init__) .none yk_BadLimit yc_BadLimit yp_BadLimit yn_BadLimit ye_BadLimit yt_BadLimit), yl_BadLimit⟩) (ci_BadLimit : PySem.W.codeIn K ye_BadLimit "BadLimit.__init__" = true) (ki_BadLimit : PySem.W.keepIn K (.ref f_BadLimit) = true)
    {C_Overlong : Addr} {xn_Overlong xq_Overlong : Str} {xN_Overlong : Addr} {xs_Overlong xu_Overlong : List Value} {xo_Overlong : List Str} {xa_Overlong : Bool} {xc_Overlong : Option Bool} {xd_Overlong : Option Addr} {m0_Overlong m1_Overlong m2_Overlong m3_Overlong m5_Overlong : Option Value}
    (aC_Overlong : PySem.W.nsIn K mainGlobals "Overlong" = some (some (.ref C_Overlong))) (xL_Overlong : K.lookup C_Overlong = some (excClassObj xn_Overlong xq_Overlong C_Overlong xN_Overlong xs_Overlong [.ref C_UnitError, .type "ValueError", .type "Exception", .type "BaseException", .type "object"] true xo_Overlong xu_Overlong xa_Overlong xc_Overlong xd_Overlong m0_Overlong m1_Overlong m2_Overlong m3_Overlong m5_Overlong "ValueError.__new__"))
    (sa_Overlong : PySem.W.findIn K (.ref C_Overlong) "__setattr__" = some (some (.builtin "object.__setattr__"))) (ga_Overlong : PySem.W.findIn K (.ref C_Overlong) "__getattribute__" = some (some (.builtin "BaseException.__getattribute__"))) (gg_Overlong : PySem.W.findIn K (.ref C_Overlong) "__getattr__" = some none) (no_Overlong : PySem.W.findIn K (.ref C_Overlong) "word" = some none) (hd_Overlong : PySem.W.hasDictIn K C_Overlong = true) (kc_Overlong : PySem.W.keepIn K (.ref C_Overlong) = true) (ex_Overlong : PySem.W.subIn K (.ref C_Overlong) (.type "BaseException") = some true) (ty_Overlong : PySem.W.typeIn K (.ref C_Overlong) = some (.type "type")) (ic_Overlong : PySem.W.isClsIn K C_Overlong = true)
    {f_Overlong : Addr} {yd_Overlong yn_Overlong : Option Addr} {yl_Overlong : Array (Option Value)} {yo_Overlong yk_Overlong yc_Overlong yp_Overlong ye_Overlong yt_Overlong : Value} (ai_Overlong : PySem.W.findIn K (.ref C_Overlong) "__init__" = some (some (.ref f_Overlong))) (ti_Overlong : PySem.W.typeIn K (.ref f_Overlong) = some (.type "function")) (li_Overlong : K.lookup f_Overlong = some ⟨yo_Overlong, yd_Overlong, .func (PySem.W.fnOf "__init__" "Overlong.__init__" (defArgs s_Overlong___init__) (defBody s_Overlong___init__) (defScope s_Overlong___init__) .none yk_Overlong yc_Overlong yp_Overlong yn_Overlong ye_Overlong yt_Overlong), yl_Overlong⟩) (ci_Overlong : PySem.W.codeIn K ye_Overlong "Overlong.__init__" = true) (ki_Overlong : PySem.W.keepIn K (.ref f_Overlong) = true)
    {C_BadEdit : Addr} {xn_BadEdit xq_BadEdit : Str} {xN_BadEdit : Addr} {xs_BadEdit xu_BadEdit : List Value} {xo_BadEdit : List Str} {xa_BadEdit : Bool} {xc_BadEdit : Option Bool} {xd_BadEdit : Option Addr} {m0_BadEdit m1_BadEdit m2_BadEdit m3_BadEdit m5_BadEdit : Option Value}
    (aC_BadEdit : PySem.W.nsIn K mainGlobals "BadEdit" = some (some (.ref C_BadEdit))) (xL_BadEdit : K.lookup C_BadEdit = some (excClassObj xn_BadEdit xq_BadEdit C_BadEdit xN_BadEdit xs_BadEdit [.ref C_UnitError, .type "ValueError", .type "Exception", .type "BaseException", .type "object"] true xo_BadEdit xu_BadEdit xa_BadEdit xc_BadEdit xd_BadEdit m0_BadEdit m1_BadEdit m2_BadEdit m3_BadEdit m5_BadEdit "ValueError.__new__"))
    (sa_BadEdit : PySem.W.findIn K (.ref C_BadEdit) "__setattr__" = some (some (.builtin "object.__setattr__"))) (ga_BadEdit : PySem.W.findIn K (.ref C_BadEdit) "__getattribute__" = some (some (.builtin "BaseException.__getattribute__"))) (gg_BadEdit : PySem.W.findIn K (.ref C_BadEdit) "__getattr__" = some none) (no_BadEdit : PySem.W.findIn K (.ref C_BadEdit) "index" = some none) (hd_BadEdit : PySem.W.hasDictIn K C_BadEdit = true) (kc_BadEdit : PySem.W.keepIn K (.ref C_BadEdit) = true) (ex_BadEdit : PySem.W.subIn K (.ref C_BadEdit) (.type "BaseException") = some true) (ty_BadEdit : PySem.W.typeIn K (.ref C_BadEdit) = some (.type "type")) (ic_BadEdit : PySem.W.isClsIn K C_BadEdit = true)
    {f_BadEdit : Addr} {yd_BadEdit yn_BadEdit : Option Addr} {yl_BadEdit : Array (Option Value)} {yo_BadEdit yk_BadEdit yc_BadEdit yp_BadEdit ye_BadEdit yt_BadEdit : Value} (ai_BadEdit : PySem.W.findIn K (.ref C_BadEdit) "__init__" = some (some (.ref f_BadEdit))) (ti_BadEdit : PySem.W.typeIn K (.ref f_BadEdit) = some (.type "function")) (li_BadEdit : K.lookup f_BadEdit = some ⟨yo_BadEdit, yd_BadEdit, .func (PySem.W.fnOf "__init__" "BadEdit.__init__" (defArgs s_BadEdit___init__) (defBody s_BadEdit___init__) (defScope s_BadEdit___init__) .none yk_BadEdit yc_BadEdit yp_BadEdit yn_BadEdit ye_BadEdit yt_BadEdit), yl_BadEdit⟩) (ci_BadEdit : PySem.W.codeIn K ye_BadEdit "BadEdit.__init__" = true) (ki_BadEdit : PySem.W.keepIn K (.ref f_BadEdit) = true)
    {C_Rejected : Addr} {xn_Rejected xq_Rejected : Str} {xN_Rejected : Addr} {xs_Rejected xu_Rejected : List Value} {xo_Rejected : List Str} {xa_Rejected : Bool} {xc_Rejected : Option Bool} {xd_Rejected : Option Addr} {m0_Rejected m1_Rejected m2_Rejected m3_Rejected m5_Rejected : Option Value}
    (aC_Rejected : PySem.W.nsIn K mainGlobals "Rejected" = some (some (.ref C_Rejected))) (xL_Rejected : K.lookup C_Rejected = some (excClassObj xn_Rejected xq_Rejected C_Rejected xN_Rejected xs_Rejected [.ref C_UnitError, .type "ValueError", .type "Exception", .type "BaseException", .type "object"] true xo_Rejected xu_Rejected xa_Rejected xc_Rejected xd_Rejected m0_Rejected m1_Rejected m2_Rejected m3_Rejected m5_Rejected "ValueError.__new__"))
    (sa_Rejected : PySem.W.findIn K (.ref C_Rejected) "__setattr__" = some (some (.builtin "object.__setattr__"))) (ga_Rejected : PySem.W.findIn K (.ref C_Rejected) "__getattribute__" = some (some (.builtin "BaseException.__getattribute__"))) (gg_Rejected : PySem.W.findIn K (.ref C_Rejected) "__getattr__" = some none) (no_Rejected : PySem.W.findIn K (.ref C_Rejected) "index" = some none) (hd_Rejected : PySem.W.hasDictIn K C_Rejected = true) (kc_Rejected : PySem.W.keepIn K (.ref C_Rejected) = true) (ex_Rejected : PySem.W.subIn K (.ref C_Rejected) (.type "BaseException") = some true) (ty_Rejected : PySem.W.typeIn K (.ref C_Rejected) = some (.type "type")) (ic_Rejected : PySem.W.isClsIn K C_Rejected = true)
    {f_Rejected : Addr} {yd_Rejected yn_Rejected : Option Addr} {yl_Rejected : Array (Option Value)} {yo_Rejected yk_Rejected yc_Rejected yp_Rejected ye_Rejected yt_Rejected : Value} (ai_Rejected : PySem.W.findIn K (.ref C_Rejected) "__init__" = some (some (.ref f_Rejected))) (ti_Rejected : PySem.W.typeIn K (.ref f_Rejected) = some (.type "function")) (li_Rejected : K.lookup f_Rejected = some ⟨yo_Rejected, yd_Rejected, .func (PySem.W.fnOf "__init__" "Rejected.__init__" (defArgs s_Rejected___init__) (defBody s_Rejected___init__) (defScope s_Rejected___init__) .none yk_Rejected yc_Rejected yp_Rejected yn_Rejected ye_Rejected yt_Rejected), yl_Rejected⟩) (ci_Rejected : PySem.W.codeIn K ye_Rejected "Rejected.__init__" = true) (ki_Rejected : PySem.W.keepIn K (.ref f_Rejected) = true)
    (zL_LE : PySem.W.nsIn K mainGlobals "LookupError" = some none) (vL_LE : PySem.W.findCls K (.type "LookupError") (.type "type") "__init__" = some (.val (.builtin "LookupError.__init__")))
    {C_NoCut : Addr} {xn_NoCut xq_NoCut : Str} {xN_NoCut : Addr} {xs_NoCut xu_NoCut : List Value} {xo_NoCut : List Str} {xa_NoCut : Bool} {xc_NoCut : Option Bool} {xd_NoCut : Option Addr} {m0_NoCut m1_NoCut m2_NoCut m3_NoCut m5_NoCut : Option Value}
    (aC_NoCut : PySem.W.nsIn K mainGlobals "NoCut" = some (some (.ref C_NoCut))) (xL_NoCut : K.lookup C_NoCut = some (excClassObj xn_NoCut xq_NoCut C_NoCut xN_NoCut xs_NoCut [.type "LookupError", .type "Exception", .type "BaseException", .type "object"] true xo_NoCut xu_NoCut xa_NoCut xc_NoCut xd_NoCut m0_NoCut m1_NoCut m2_NoCut m3_NoCut m5_NoCut "LookupError.__new__"))
    (sa_NoCut : PySem.W.findIn K (.ref C_NoCut) "__setattr__" = some (some (.builtin "object.__setattr__"))) (ga_NoCut : PySem.W.findIn K (.ref C_NoCut) "__getattribute__" = some (some (.builtin "BaseException.__getattribute__"))) (gg_NoCut : PySem.W.findIn K (.ref C_NoCut) "__getattr__" = some none) (no_NoCut : PySem.W.findIn K (.ref C_NoCut) "index" = some none) (hd_NoCut : PySem.W.hasDictIn K C_NoCut = true) (kc_NoCut : PySem.W.keepIn K (.ref C_NoCut) = true) (ex_NoCut : PySem.W.subIn K (.ref C_NoCut) (.type "BaseException") = some true) (ty_NoCut : PySem.W.typeIn K (.ref C_NoCut) = some (.type "type")) (ic_NoCut : PySem.W.isClsIn K C_NoCut = true)
    {f_NoCut : Addr} {yd_NoCut yn_NoCut : Option Addr} {yl_NoCut : Array (Option Value)} {yo_NoCut yk_NoCut yc_NoCut yp_NoCut ye_NoCut yt_NoCut : Value} (ai_NoCut : PySem.W.findIn K (.ref C_NoCut) "__init__" = some (some (.ref f_NoCut))) (ti_NoCut : PySem.W.typeIn K (.ref f_NoCut) = some (.type "function")) (li_NoCut : K.lookup f_NoCut = some ⟨yo_NoCut, yd_NoCut, .func (PySem.W.fnOf "__init__" "NoCut.__init__" (defArgs s_NoCut___init__) (defBody s_NoCut___init__) (defScope s_NoCut___init__) .none yk_NoCut yc_NoCut yp_NoCut yn_NoCut ye_NoCut yt_NoCut), yl_NoCut⟩) (ci_NoCut : PySem.W.codeIn K ye_NoCut "NoCut.__init__" = true) (ki_NoCut : PySem.W.keepIn K (.ref f_NoCut) = true)
    {C_NoVersion : Addr} {xn_NoVersion xq_NoVersion : Str} {xN_NoVersion : Addr} {xs_NoVersion xu_NoVersion : List Value} {xo_NoVersion : List Str} {xa_NoVersion : Bool} {xc_NoVersion : Option Bool} {xd_NoVersion : Option Addr} {m0_NoVersion m1_NoVersion m2_NoVersion m3_NoVersion m5_NoVersion : Option Value}
    (aC_NoVersion : PySem.W.nsIn K mainGlobals "NoVersion" = some (some (.ref C_NoVersion))) (xL_NoVersion : K.lookup C_NoVersion = some (excClassObj xn_NoVersion xq_NoVersion C_NoVersion xN_NoVersion xs_NoVersion [.type "LookupError", .type "Exception", .type "BaseException", .type "object"] true xo_NoVersion xu_NoVersion xa_NoVersion xc_NoVersion xd_NoVersion m0_NoVersion m1_NoVersion m2_NoVersion m3_NoVersion m5_NoVersion "LookupError.__new__"))
    (sa_NoVersion : PySem.W.findIn K (.ref C_NoVersion) "__setattr__" = some (some (.builtin "object.__setattr__"))) (ga_NoVersion : PySem.W.findIn K (.ref C_NoVersion) "__getattribute__" = some (some (.builtin "BaseException.__getattribute__"))) (gg_NoVersion : PySem.W.findIn K (.ref C_NoVersion) "__getattr__" = some none) (no_NoVersion : PySem.W.findIn K (.ref C_NoVersion) "version" = some none) (hd_NoVersion : PySem.W.hasDictIn K C_NoVersion = true) (kc_NoVersion : PySem.W.keepIn K (.ref C_NoVersion) = true) (ex_NoVersion : PySem.W.subIn K (.ref C_NoVersion) (.type "BaseException") = some true) (ty_NoVersion : PySem.W.typeIn K (.ref C_NoVersion) = some (.type "type")) (ic_NoVersion : PySem.W.isClsIn K C_NoVersion = true)
    {f_NoVersion : Addr} {yd_NoVersion yn_NoVersion : Option Addr} {yl_NoVersion : Array (Option Value)} {yo_NoVersion yk_NoVersion yc_NoVersion yp_NoVersion ye_NoVersion yt_NoVersion : Value} (ai_NoVersion : PySem.W.findIn K (.ref C_NoVersion) "__init__" = some (some (.ref f_NoVersion))) (ti_NoVersion : PySem.W.typeIn K (.ref f_NoVersion) = some (.type "function")) (li_NoVersion : K.lookup f_NoVersion = some ⟨yo_NoVersion, yd_NoVersion, .func (PySem.W.fnOf "__init__" "NoVersion.__init__" (defArgs s_NoVersion___init__) (defBody s_NoVersion___init__) (defScope s_NoVersion___init__) .none yk_NoVersion yc_NoVersion yp_NoVersion yn_NoVersion ye_NoVersion yt_NoVersion), yl_NoVersion⟩) (ci_NoVersion : PySem.W.codeIn K ye_NoVersion "NoVersion.__init__" = true) (ki_NoVersion : PySem.W.keepIn K (.ref f_NoVersion) = true)
    {C_Busy : Addr} (aC_Busy : PySem.W.nsIn K mainGlobals "Busy" = some (some (.ref C_Busy)))
    (ev_Busy : PySem.W.excIn K C_Busy veT "ValueError.__new__" = true) (kv_Busy : PySem.W.keepIn K (.ref C_Busy) = true)
    {C_TooManyEdits : Addr} (aC_TooManyEdits : PySem.W.nsIn K mainGlobals "TooManyEdits" = some (some (.ref C_TooManyEdits)))
    (ev_TooManyEdits : PySem.W.excIn K C_TooManyEdits veT "ValueError.__new__" = true) (kv_TooManyEdits : PySem.W.keepIn K (.ref C_TooManyEdits) = true)
    {C_NothingToUndo : Addr} (aC_NothingToUndo : PySem.W.nsIn K mainGlobals "NothingToUndo" = some (some (.ref C_NothingToUndo)))
    (ev_NothingToUndo : PySem.W.excIn K C_NothingToUndo veT "ValueError.__new__" = true) (kv_NothingToUndo : PySem.W.keepIn K (.ref C_NothingToUndo) = true)
    {C_NothingToRedo : Addr} (aC_NothingToRedo : PySem.W.nsIn K mainGlobals "NothingToRedo" = some (some (.ref C_NothingToRedo)))
    (ev_NothingToRedo : PySem.W.excIn K C_NothingToRedo veT "ValueError.__new__" = true) (kv_NothingToRedo : PySem.W.keepIn K (.ref C_NothingToRedo) = true)
    {C_BadEdits : Addr} (aC_BadEdits : PySem.W.nsIn K mainGlobals "BadEdits" = some (some (.ref C_BadEdits)))
    (ev_BadEdits : PySem.W.excIn K C_BadEdits veT "ValueError.__new__" = true) (kv_BadEdits : PySem.W.keepIn K (.ref C_BadEdits) = true)
    (ev_UnitError : PySem.W.excIn K C_UnitError veT "ValueError.__new__" = true) (kv_UnitError : PySem.W.keepIn K (.ref C_UnitError) = true)
    (kt_BadText : kitAll K (.ref C_BadText) tb_BadText = true)
    (kt_BadScheme : kitAll K (.ref C_BadScheme) tb_BadScheme = true)
    (kt_BadCuts : kitAll K (.ref C_BadCuts) tb_BadCuts = true)
    (kt_BadWord : kitAll K (.ref C_BadWord) tb_BadWord = true)
    (kt_BadLimit : kitAll K (.ref C_BadLimit) tb_BadLimit = true)
    (kt_Overlong : kitAll K (.ref C_Overlong) tb_Overlong = true)
    (kt_Busy : kitAll K (.ref C_Busy) tb_Busy = true)
    (kt_TooManyEdits : kitAll K (.ref C_TooManyEdits) tb_TooManyEdits = true)
    (kt_NothingToUndo : kitAll K (.ref C_NothingToUndo) tb_NothingToUndo = true)
    (kt_NothingToRedo : kitAll K (.ref C_NothingToRedo) tb_NothingToRedo = true)
    (kt_BadEdits : kitAll K (.ref C_BadEdits) tb_BadEdits = true)
    (kt_BadEdit : kitAll K (.ref C_BadEdit) tb_BadEdit = true)
    (kt_Rejected : kitAll K (.ref C_Rejected) tb_Rejected = true)
    (kt_LookupError : kitAll K (.type "LookupError") tb_LookupError = true)
    (kt_UnitError : kitAll K (.ref C_UnitError) tb_UnitError = true)
    (kt_ValueError : kitAll K (.type "ValueError") tb_ValueError = true)
    (kt_NoVersion : kitAll K (.ref C_NoVersion) tb_NoVersion = true)
    (kt_NoCut : kitAll K (.ref C_NoCut) tb_NoCut = true)
    {C_Bench : Addr} (aC_Bench : PySem.W.nsIn K mainGlobals "Bench" = some (some (.ref C_Bench))) (rk_Bench : PySem.W.readsIn K C_Bench (.type "type") = true) (gk_Bench : PySem.W.specialIn K (.ref C_Bench) "__getattribute__" = some (some (.builtin "type.__getattribute__")))
    {C_KeepBench : Addr} (aC_KeepBench : PySem.W.nsIn K mainGlobals "KeepBench" = some (some (.ref C_KeepBench))) (rk_KeepBench : PySem.W.readsIn K C_KeepBench (.type "type") = true) (gk_KeepBench : PySem.W.specialIn K (.ref C_KeepBench) "__getattribute__" = some (some (.builtin "type.__getattribute__")))
    {tk_Bench_MOST_EDITS : Tok} (vk_Bench_MOST_EDITS : PySem.W.findCls K (.ref C_Bench) (.type "type") "MOST_EDITS" = some (.val (.int 60 tk_Bench_MOST_EDITS)))
    {tk_KeepBench_MOST_EDITS : Tok} (vk_KeepBench_MOST_EDITS : PySem.W.findCls K (.ref C_KeepBench) (.type "type") "MOST_EDITS" = some (.val (.int 60 tk_KeepBench_MOST_EDITS)))
    (z_n_len : PySem.W.nsIn K mainGlobals "len" = some none)
    (z_n_str : PySem.W.nsIn K mainGlobals "str" = some none)
    (z_n_isinstance : PySem.W.nsIn K mainGlobals "isinstance" = some none)
    (z_n_range : PySem.W.nsIn K mainGlobals "range" = some none)
    (z_n_LookupError : PySem.W.nsIn K mainGlobals "LookupError" = some none)
    (z_n_ValueError : PySem.W.nsIn K mainGlobals "ValueError" = some none)
    (z_n_repr : PySem.W.nsIn K mainGlobals "repr" = some none)
    {t_c_MAX_LETTERS : Tok} (z_c_MAX_LETTERS : PySem.W.nsIn K mainGlobals "MAX_LETTERS" = some (some (.int 4 t_c_MAX_LETTERS)))
    {t_c_MAX_STATES : Tok} (z_c_MAX_STATES : PySem.W.nsIn K mainGlobals "MAX_STATES" = some (some (.int 8 t_c_MAX_STATES)))
    {t_c_MAX_COUNT : Tok} (z_c_MAX_COUNT : PySem.W.nsIn K mainGlobals "MAX_COUNT" = some (some (.int 9 t_c_MAX_COUNT)))
    {t_c_MAX_MOST : Tok} (z_c_MAX_MOST : PySem.W.nsIn K mainGlobals "MAX_MOST" = some (some (.int 200 t_c_MAX_MOST)))
    {t_c_MAX_CUT : Tok} (z_c_MAX_CUT : PySem.W.nsIn K mainGlobals "MAX_CUT" = some (some (.int 20 t_c_MAX_CUT)))
    {t_c_MAX_CUTS : Tok} (z_c_MAX_CUTS : PySem.W.nsIn K mainGlobals "MAX_CUTS" = some (some (.int 3 t_c_MAX_CUTS)))
    {t_c_MAX_LENGTH : Tok} (z_c_MAX_LENGTH : PySem.W.nsIn K mainGlobals "MAX_LENGTH" = some (some (.int 400 t_c_MAX_LENGTH)))
    {t_c_MAX_EDITS : Tok} (z_c_MAX_EDITS : PySem.W.nsIn K mainGlobals "MAX_EDITS" = some (some (.int 60 t_c_MAX_EDITS)))
    {t_c_BATCH : Tok} (z_c_BATCH : PySem.W.nsIn K mainGlobals "BATCH" = some (some (.int 20 t_c_BATCH)))
    {t_c_MAX_PARTED : Tok} (z_c_MAX_PARTED : PySem.W.nsIn K mainGlobals "MAX_PARTED" = some (some (.int 40 t_c_MAX_PARTED)))
    {t_c_MAX_ROAD : Tok} (z_c_MAX_ROAD : PySem.W.nsIn K mainGlobals "MAX_ROAD" = some (some (.int 4 t_c_MAX_ROAD)))
    (z_n_int : PySem.W.nsIn K mainGlobals "int" = some none)
    (z_n_abs : PySem.W.nsIn K mainGlobals "abs" = some none) :
    ∃ fd : FuncData, (∀ (s : Shared) (v : Value), BindsTo s fd ⟨[v], []⟩ [("_law_script", v)]) ∧ ∀ base : Heap, K.In base → base.Ns mainGlobals mg → FnG l.prog WW.w K mg base 4 fa fd ["_law_script"] (spLaw K) := by
  have e := hfa.symm.trans (PySem.W.mg_of X G ax7)
  cases e
  have T : Txt K mg := ⟨PySem.W.mg_none_of X G z_n_len, PySem.W.mg_none_of X G z_n_str, PySem.W.mg_none_of X G z_n_isinstance, PySem.W.mg_none_of X G z_n_range, PySem.W.mg_none_of X G z_n_LookupError, PySem.W.mg_none_of X G z_n_ValueError, PySem.W.mg_none_of X G z_n_repr, ⟨_, PySem.W.mg_of X G z_c_MAX_LETTERS⟩, ⟨_, PySem.W.mg_of X G z_c_MAX_STATES⟩, ⟨_, PySem.W.mg_of X G z_c_MAX_COUNT⟩, ⟨_, PySem.W.mg_of X G z_c_MAX_MOST⟩, ⟨_, PySem.W.mg_of X G z_c_MAX_CUT⟩, ⟨_, PySem.W.mg_of X G z_c_MAX_CUTS⟩, ⟨_, PySem.W.mg_of X G z_c_MAX_LENGTH⟩, ⟨_, PySem.W.mg_of X G z_c_MAX_EDITS⟩, ⟨_, PySem.W.mg_of X G z_c_BATCH⟩, ⟨_, PySem.W.mg_of X G z_c_MAX_PARTED⟩, ⟨_, PySem.W.mg_of X G z_c_MAX_ROAD⟩, PySem.W.mg_none_of X G z_n_int, PySem.W.mg_none_of X G z_n_abs⟩
  refine ⟨PySem.W.fnOf "law" "law" (defArgs s_law) (defBody s_law) (defScope s_law) .none kVx7 dcx7 pmx7 anx7 cdx7 ctx7, fun s v => .of_eq rfl, fun base _ _ => ?_⟩
  have FI_BadText := fun_mk (st := s_BadText___init__) li_BadText ci_BadText ki_BadText
  have bI_BadText := FI_BadText.binds (ps := ["self", "line"]) fun _ _ _ _ _ _ us hl => match us, hl with | [_, _], _ => rfl
  have O_BadText := oexC_mk xL_BadText sa_BadText ex_BadText ty_BadText kc_BadText
  have x_BadText : XCls l.prog WW.w K mg base "BadText" "line" C_BadText := ⟨PySem.W.mg_of X G aC_BadText, O_BadText, ga_BadText, gg_BadText, no_BadText, hd_BadText, _, _, _, ai_BadText, ti_BadText, ok_BadText___init__ (PySem.W.mg_of X G aC_UnitError) ⟨br_UnitError, bg_UnitError, au_UnitError⟩ O_BadText no_BadText FI_BadText, bI_BadText⟩
  have FI_BadScheme := fun_mk (st := s_BadScheme___init__) li_BadScheme ci_BadScheme ki_BadScheme
  have bI_BadScheme := FI_BadScheme.binds (ps := ["self", "error"]) fun _ _ _ _ _ _ us hl => match us, hl with | [_, _], _ => rfl
  have O_BadScheme := oexC_mk xL_BadScheme sa_BadScheme ex_BadScheme ty_BadScheme kc_BadScheme
  have x_BadScheme : XCls l.prog WW.w K mg base "BadScheme" "error" C_BadScheme := ⟨PySem.W.mg_of X G aC_BadScheme, O_BadScheme, ga_BadScheme, gg_BadScheme, no_BadScheme, hd_BadScheme, _, _, _, ai_BadScheme, ti_BadScheme, ok_BadScheme___init__ (PySem.W.mg_of X G aC_UnitError) ⟨br_UnitError, bg_UnitError, au_UnitError⟩ O_BadScheme no_BadScheme FI_BadScheme, bI_BadScheme⟩
  have FI_BadCuts := fun_mk (st := s_BadCuts___init__) li_BadCuts ci_BadCuts ki_BadCuts
  have bI_BadCuts := FI_BadCuts.binds (ps := ["self", "error"]) fun _ _ _ _ _ _ us hl => match us, hl with | [_, _], _ => rfl
  have O_BadCuts := oexC_mk xL_BadCuts sa_BadCuts ex_BadCuts ty_BadCuts kc_BadCuts
  have x_BadCuts : XCls l.prog WW.w K mg base "BadCuts" "error" C_BadCuts := ⟨PySem.W.mg_of X G aC_BadCuts, O_BadCuts, ga_BadCuts, gg_BadCuts, no_BadCuts, hd_BadCuts, _, _, _, ai_BadCuts, ti_BadCuts, ok_BadCuts___init__ (PySem.W.mg_of X G aC_UnitError) ⟨br_UnitError, bg_UnitError, au_UnitError⟩ O_BadCuts no_BadCuts FI_BadCuts, bI_BadCuts⟩
  have FI_BadWord := fun_mk (st := s_BadWord___init__) li_BadWord ci_BadWord ki_BadWord
  have bI_BadWord := FI_BadWord.binds (ps := ["self", "word"]) fun _ _ _ _ _ _ us hl => match us, hl with | [_, _], _ => rfl
  have O_BadWord := oexC_mk xL_BadWord sa_BadWord ex_BadWord ty_BadWord kc_BadWord
  have x_BadWord : XCls l.prog WW.w K mg base "BadWord" "word" C_BadWord := ⟨PySem.W.mg_of X G aC_BadWord, O_BadWord, ga_BadWord, gg_BadWord, no_BadWord, hd_BadWord, _, _, _, ai_BadWord, ti_BadWord, ok_BadWord___init__ (PySem.W.mg_of X G aC_UnitError) ⟨br_UnitError, bg_UnitError, au_UnitError⟩ O_BadWord no_BadWord FI_BadWord, bI_BadWord⟩
  have FI_BadLimit := fun_mk (st := s_BadLimit___init__) li_BadLimit ci_BadLimit ki_BadLimit
  have bI_BadLimit := FI_BadLimit.binds (ps := ["self", "limit"]) fun _ _ _ _ _ _ us hl => match us, hl with | [_, _], _ => rfl
  have O_BadLimit := oexC_mk xL_BadLimit sa_BadLimit ex_BadLimit ty_BadLimit kc_BadLimit
  have x_BadLimit : XCls l.prog WW.w K mg base "BadLimit" "limit" C_BadLimit := ⟨PySem.W.mg_of X G aC_BadLimit, O_BadLimit, ga_BadLimit, gg_BadLimit, no_BadLimit, hd_BadLimit, _, _, _, ai_BadLimit, ti_BadLimit, ok_BadLimit___init__ (PySem.W.mg_of X G aC_UnitError) ⟨br_UnitError, bg_UnitError, au_UnitError⟩ O_BadLimit no_BadLimit FI_BadLimit, bI_BadLimit⟩
  have FI_Overlong := fun_mk (st := s_Overlong___init__) li_Overlong ci_Overlong ki_Overlong
  have bI_Overlong := FI_Overlong.binds (ps := ["self", "word"]) fun _ _ _ _ _ _ us hl => match us, hl with | [_, _], _ => rfl
  have O_Overlong := oexC_mk xL_Overlong sa_Overlong ex_Overlong ty_Overlong kc_Overlong
  have x_Overlong : XCls l.prog WW.w K mg base "Overlong" "word" C_Overlong := ⟨PySem.W.mg_of X G aC_Overlong, O_Overlong, ga_Overlong, gg_Overlong, no_Overlong, hd_Overlong, _, _, _, ai_Overlong, ti_Overlong, ok_Overlong___init__ (PySem.W.mg_of X G aC_UnitError) ⟨br_UnitError, bg_UnitError, au_UnitError⟩ O_Overlong no_Overlong FI_Overlong, bI_Overlong⟩
  have FI_BadEdit := fun_mk (st := s_BadEdit___init__) li_BadEdit ci_BadEdit ki_BadEdit
  have bI_BadEdit := FI_BadEdit.binds (ps := ["self", "index"]) fun _ _ _ _ _ _ us hl => match us, hl with | [_, _], _ => rfl
  have O_BadEdit := oexC_mk xL_BadEdit sa_BadEdit ex_BadEdit ty_BadEdit kc_BadEdit
  have x_BadEdit : XCls l.prog WW.w K mg base "BadEdit" "index" C_BadEdit := ⟨PySem.W.mg_of X G aC_BadEdit, O_BadEdit, ga_BadEdit, gg_BadEdit, no_BadEdit, hd_BadEdit, _, _, _, ai_BadEdit, ti_BadEdit, ok_BadEdit___init__ (PySem.W.mg_of X G aC_UnitError) ⟨br_UnitError, bg_UnitError, au_UnitError⟩ O_BadEdit no_BadEdit FI_BadEdit, bI_BadEdit⟩
  have FI_Rejected := fun_mk (st := s_Rejected___init__) li_Rejected ci_Rejected ki_Rejected
  have bI_Rejected := FI_Rejected.binds (ps := ["self", "index"]) fun _ _ _ _ _ _ us hl => match us, hl with | [_, _], _ => rfl
  have O_Rejected := oexC_mk xL_Rejected sa_Rejected ex_Rejected ty_Rejected kc_Rejected
  have x_Rejected : XCls l.prog WW.w K mg base "Rejected" "index" C_Rejected := ⟨PySem.W.mg_of X G aC_Rejected, O_Rejected, ga_Rejected, gg_Rejected, no_Rejected, hd_Rejected, _, _, _, ai_Rejected, ti_Rejected, ok_Rejected___init__ (PySem.W.mg_of X G aC_UnitError) ⟨br_UnitError, bg_UnitError, au_UnitError⟩ O_Rejected no_Rejected FI_Rejected, bI_Rejected⟩
  have FI_NoCut := fun_mk (st := s_NoCut___init__) li_NoCut ci_NoCut ki_NoCut
  have bI_NoCut := FI_NoCut.binds (ps := ["self", "index"]) fun _ _ _ _ _ _ us hl => match us, hl with | [_, _], _ => rfl
  have O_NoCut := olxC_mk xL_NoCut sa_NoCut ex_NoCut ty_NoCut kc_NoCut
  have x_NoCut : XClsL l.prog WW.w K mg base "NoCut" "index" C_NoCut := ⟨PySem.W.mg_of X G aC_NoCut, O_NoCut, ga_NoCut, gg_NoCut, no_NoCut, hd_NoCut, _, _, _, ai_NoCut, ti_NoCut, ok_NoCut___init__ (PySem.W.mg_none_of X G zL_LE) vL_LE O_NoCut no_NoCut FI_NoCut, bI_NoCut⟩
  have FI_NoVersion := fun_mk (st := s_NoVersion___init__) li_NoVersion ci_NoVersion ki_NoVersion
  have bI_NoVersion := FI_NoVersion.binds (ps := ["self", "version"]) fun _ _ _ _ _ _ us hl => match us, hl with | [_, _], _ => rfl
  have O_NoVersion := olxC_mk xL_NoVersion sa_NoVersion ex_NoVersion ty_NoVersion kc_NoVersion
  have x_NoVersion : XClsL l.prog WW.w K mg base "NoVersion" "version" C_NoVersion := ⟨PySem.W.mg_of X G aC_NoVersion, O_NoVersion, ga_NoVersion, gg_NoVersion, no_NoVersion, hd_NoVersion, _, _, _, ai_NoVersion, ti_NoVersion, ok_NoVersion___init__ (PySem.W.mg_none_of X G zL_LE) vL_LE O_NoVersion no_NoVersion FI_NoVersion, bI_NoVersion⟩
  have XS : Exs l.prog WW.w K mg base := ⟨xv_of x_BadText aC_BadText, xv_of x_BadScheme aC_BadScheme, xv_of x_BadCuts aC_BadCuts, xv_of x_BadWord aC_BadWord, xv_of x_BadLimit aC_BadLimit, xv_of x_Overlong aC_Overlong, xv_of x_BadEdit aC_BadEdit, xv_of x_Rejected aC_Rejected, xv_ofL x_NoCut aC_NoCut, xv_ofL x_NoVersion aC_NoVersion, xv0_of aC_Busy (PySem.W.mg_of X G aC_Busy) ev_Busy kv_Busy, xv0_of aC_TooManyEdits (PySem.W.mg_of X G aC_TooManyEdits) ev_TooManyEdits kv_TooManyEdits, xv0_of aC_NothingToUndo (PySem.W.mg_of X G aC_NothingToUndo) ev_NothingToUndo kv_NothingToUndo, xv0_of aC_NothingToRedo (PySem.W.mg_of X G aC_NothingToRedo) ev_NothingToRedo kv_NothingToRedo, xv0_of aC_BadEdits (PySem.W.mg_of X G aC_BadEdits) ev_BadEdits kv_BadEdits, xv0_of aC_UnitError (PySem.W.mg_of X G aC_UnitError) ev_UnitError kv_UnitError, xt_of aC_BadText (PySem.W.mg_of X G aC_BadText) kt_BadText, xt_of aC_BadScheme (PySem.W.mg_of X G aC_BadScheme) kt_BadScheme, xt_of aC_BadCuts (PySem.W.mg_of X G aC_BadCuts) kt_BadCuts, xt_of aC_BadWord (PySem.W.mg_of X G aC_BadWord) kt_BadWord, xt_of aC_BadLimit (PySem.W.mg_of X G aC_BadLimit) kt_BadLimit, xt_of aC_Overlong (PySem.W.mg_of X G aC_Overlong) kt_Overlong, xt_of aC_Busy (PySem.W.mg_of X G aC_Busy) kt_Busy, xt_of aC_TooManyEdits (PySem.W.mg_of X G aC_TooManyEdits) kt_TooManyEdits, xt_of aC_NothingToUndo (PySem.W.mg_of X G aC_NothingToUndo) kt_NothingToUndo, xt_of aC_NothingToRedo (PySem.W.mg_of X G aC_NothingToRedo) kt_NothingToRedo, xt_of aC_BadEdits (PySem.W.mg_of X G aC_BadEdits) kt_BadEdits, xt_of aC_BadEdit (PySem.W.mg_of X G aC_BadEdit) kt_BadEdit, xt_of aC_Rejected (PySem.W.mg_of X G aC_Rejected) kt_Rejected, exTab_of kt_LookupError, xt_of aC_UnitError (PySem.W.mg_of X G aC_UnitError) kt_UnitError, exTab_of kt_ValueError, xt_of aC_NoVersion (PySem.W.mg_of X G aC_NoVersion) kt_NoVersion, xt_of aC_NoCut (PySem.W.mg_of X G aC_NoCut) kt_NoCut, xcon_of aC_Bench (PySem.W.mg_of X G aC_Bench) rk_Bench gk_Bench vk_Bench_MOST_EDITS, xcon_of aC_KeepBench (PySem.W.mg_of X G aC_KeepBench) rk_KeepBench gk_KeepBench vk_KeepBench_MOST_EDITS⟩
  have F__law_deck := fun_mk (st := s__law_deck) lx0 ccx0 kx0
  have b__law_deck := F__law_deck.binds (ps := ["_law_script"]) fun _ _ _ _ _ _ us hl => bnd1 hl fun _ => rfl
  have C__law_deck : Cal l.prog WW.w K mg base 1 "_law_deck" ["_law_script"] (spDeck K) := ⟨_, _, ok__law_deck T F__law_deck , PySem.W.mg_of X G ax0, F__law_deck.kp, b__law_deck⟩
  have F__law_fields := fun_mk (st := s__law_fields) lx1 ccx1 kx1
  have b__law_fields := F__law_fields.binds (ps := ["_law_a"]) fun _ _ _ _ _ _ us hl => bnd1 hl fun _ => rfl
  have C__law_fields : Cal l.prog WW.w K mg base 3 "_law_fields" ["_law_a"] (spD K 1 m__law_fields) := ⟨_, _, ok__law_fields T F__law_fields  XS, PySem.W.mg_of X G ax1, F__law_fields.kp, b__law_fields⟩
  have F__law_draw := fun_mk (st := s__law_draw) lx2 ccx2 kx2
  have b__law_draw := F__law_draw.binds (ps := ["_law_deck_here", "_law_many"]) fun _ _ _ _ _ _ us hl => bnd2 hl fun _ _ => rfl
  have C__law_draw : Cal l.prog WW.w K mg base 1 "_law_draw" ["_law_deck_here", "_law_many"] (spD K 2 m__law_draw) := ⟨_, _, ok__law_draw T F__law_draw , PySem.W.mg_of X G ax2, F__law_draw.kp, b__law_draw⟩
  have F__law_one := fun_mk (st := s__law_one) lx3 ccx3 kx3
  have b__law_one := F__law_one.binds (ps := ["_law_deck_here", "_law_items"]) fun _ _ _ _ _ _ us hl => bnd2 hl fun _ _ => rfl
  have C__law_one : Cal l.prog WW.w K mg base 2 "_law_one" ["_law_deck_here", "_law_items"] (spD K 2 m__law_one) := ⟨_, _, ok__law_one T F__law_one C__law_draw, PySem.W.mg_of X G ax3, F__law_one.kp, b__law_one⟩
  have F__law_value := fun_mk (st := s__law_value) lx4 ccx4 kx4
  have b__law_value := F__law_value.binds (ps := ["_law_deck_here"]) fun _ _ _ _ _ _ us hl => bnd1 hl fun _ => rfl
  have C__law_value : Cal l.prog WW.w K mg base 3 "_law_value" ["_law_deck_here"] (spD K 1 m__law_value) := ⟨_, _, ok__law_value T F__law_value C__law_draw C__law_one, PySem.W.mg_of X G ax4, F__law_value.kp, b__law_value⟩
  have F__law_kinds := fun_mk (st := s__law_kinds) lx5 ccx5 kx5
  have b__law_kinds := F__law_kinds.binds (ps := ["_law_e"]) fun _ _ _ _ _ _ us hl => bnd1 hl fun _ => rfl
  have C__law_kinds : Cal l.prog WW.w K mg base 1 "_law_kinds" ["_law_e"] (spD K 1 m__law_kinds) := ⟨_, _, ok__law_kinds T F__law_kinds  XS, PySem.W.mg_of X G ax5, F__law_kinds.kp, b__law_kinds⟩
  have F__law_kinds_right := fun_mk (st := s__law_kinds_right) lx6 ccx6 kx6
  have b__law_kinds_right := F__law_kinds_right.binds (ps := ["_law_a"]) fun _ _ _ _ _ _ us hl => bnd1 hl fun _ => rfl
  have C__law_kinds_right : Cal l.prog WW.w K mg base 3 "_law_kinds_right" ["_law_a"] (spD K 1 m__law_kinds_right) := ⟨_, _, ok__law_kinds_right T F__law_kinds_right C__law_kinds XS, PySem.W.mg_of X G ax6, F__law_kinds_right.kp, b__law_kinds_right⟩
  have F_law := fun_mk (st := s_law) lx7 ccx7 kx7
  exact ok_law T F_law C__law_deck C__law_value C__law_kinds_right C__law_fields XS hb
end Lw

set_option Elab.async false
set_option linter.all false
set_option maxRecDepth 100000
set_option maxHeartbeats 1000000
namespace Lw
open PySem MD L2
variable {ww : WW}
/-! ### things at the end of the store -/
/-- the store with more things -/
def Xs (st : S) (r : List Ob) : S := { st with ob := st.ob ++ r }
theorem Xs_at (st : S) (r : List Ob) (i : Nat) : (Xs st r).ob[st.ob.length + i]? = r[i]? := by
  show (st.ob ++ r)[st.ob.length + i]? = _
  rw [List.getElem?_append_right (by omega), Nat.add_sub_cancel_left]
theorem Xs_put (st : S) (r : List Ob) (i : Nat) (o : Ob) : (Xs st r).put (st.ob.length + i) o = Xs st (r.set i o) := by
  show ({ st with ob := (st.ob ++ r).set (st.ob.length + i) o } : S) = _
  rw [List.set_append_right _ _ (by omega), Nat.add_sub_cancel_left]; rfl
theorem Xs_ad (st : S) (r : List Ob) (o : Ob) : (Xs st r).ad o = Xs st (r ++ [o]) := by
  show ({ st with ob := (st.ob ++ r) ++ [o] } : S) = _
  rw [List.append_assoc]; rfl
theorem Xs_len (st : S) (r : List Ob) : (Xs st r).ob.length = st.ob.length + r.length := List.length_append
theorem Xs_nil (st : S) : Xs st [] = st := by
  show ({ st with ob := st.ob ++ [] } : S) = st
  rw [List.append_nil]
/-! ### lists of the store -/
section
variable {st : S} {n : Nat} {ds : List D} {env : Sg} {fo fx : ME}
theorem lstAt_of (h : st.ob[n]? = some (.lst ds)) : lstAt st n = some ds := by
  unfold lstAt
  rw [h]
theorem sapp_of {d : D} (h : st.ob[n]? = some (.lst ds)) (hl : ds.length ≤ 900000) (ho : fo env st = some (.ref n, st)) (hx : fx env st = some (d, st)) : sappM fo fx env st = some (.nx env, st.put n (.lst (ds ++ [d]))) := by
  unfold sappM
  rw [ho, Option.bind_some]
  show (lstAt st n).bind _ = _
  rw [lstAt_of h, Option.bind_some, hx, Option.bind_some]
  show ((lstAt st n).bind fun ds => if ds.length < sizeLine then some (Fl.nx env, st.put n (.lst (ds ++ [d]))) else none) = _
  rw [lstAt_of h, Option.bind_some, if_pos (Nat.lt_of_le_of_lt hl (by decide))]
theorem spop_of {d : D} (h : st.ob[n]? = some (.lst (ds ++ [d]))) (ho : fo env st = some (.ref n, st)) : spopM fo env st = some (d, st.put n (.lst ds)) := by
  unfold spopM
  rw [ho, Option.bind_some]
  show (lstAt st n).bind (fun ds => (ds[ds.length - 1]?).map fun d => (d, st.put n (.lst ds.dropLast))) = _
  rw [lstAt_of h, Option.bind_some, List.dropLast_concat, List.length_append]
  have : (ds ++ [d])[ds.length + [d].length - 1]? = some d := by
    rw [List.getElem?_append_right (by simp)]
    simp
  rw [this]; rfl
end
end Lw

set_option Elab.async false
set_option linter.all false
set_option maxRecDepth 100000
set_option maxHeartbeats 1000000
namespace Lw
open PySem MD L2 Lc
/-! ### benches, plainly: what cuts are, what an edit comes to -/
abbrev lrs (k : Nat) : List Nat := (List.range k).map (97 + ·)
def isIn (d : D) (lo hi : Int) : Bool := match d with
  | .int i => decide (lo ≤ i ∧ i ≤ hi)
  | _ => false
def isTup : D → Bool
  | .tup _ => true
  | _ => false
def isStrB : D → Bool
  | .str _ => true
  | _ => false
def clB (k : Nat) (ws : List Nat) : Bool := decide (ws = (lrs k).filter fun x => decide (x ∈ ws))
def clD (k : Nat) (d : D) : Bool := match d with
  | .str s => clB k s.cps.toList
  | _ => false
def isC (k U : Nat) (v : D) : Bool := match v with
  | .tup [a, b, c] => (isIn a 0 ((U : Int) - 1) && isIn b 0 20) && clD k c
  | _ => false
def badAt (k U : Nat) (ds : List D) : Option Nat := ds.findIdx? fun x => !isC k U x
def cerr (k U : Nat) (v : D) : D := match v with
  | .tup ds => match badAt k U ds with
    | some i => .tup [nD i, .str "cut"]
    | none => if 3 < ds.length then .tup [.non, .str "many"] else .non
  | _ => .tup [.non, .str "cuts"]
structure Cz (k U : Nat) (cs : List D) : Prop where
  n3 : cs.length ≤ 3
  ok : ∀ c ∈ cs, isC k U c = true
theorem isC_other {k U : Nat} {v : D} (h : ∀ a b c, v ≠ .tup [a, b, c]) : isC k U v = false := by
  unfold isC
  split
  · rename_i a b c
    exact absurd rfl (h a b c)
  · rfl
theorem three_of {ds : List D} (h : ds.length = 3) : ∃ a b c, ds = [a, b, c] := by
  match ds, h with
  | [a, b, c], _ => exact ⟨a, b, c, rfl⟩
theorem W_of' (s : Str) : W s.cps.toList = s := by
  apply TL.ext_tl
  show (W s.cps.toList).cps.toList = _
  rw [W_list]
theorem isIn_form {d : D} {lo hi : Int} (h : isIn d lo hi = true) (h0 : 0 ≤ lo) : ∃ n : Nat, d = nD n ∧ lo ≤ (n : Int) ∧ (n : Int) ≤ hi := by
  cases d with
  | int i =>
    have := of_decide_eq_true h
    refine ⟨i.toNat, ?_, by omega, by omega⟩
    show D.int i = D.int _
    rw [Int.toNat_of_nonneg (by omega)]
  | _ => cases h
theorem clB_small {k : Nat} (hk : k ≤ 4) {ws : List Nat} (h : clB k ws = true) : ws.length ≤ 4 ∧ ∀ c ∈ ws, c < 128 := by
  have h : ws = _ := of_decide_eq_true h
  constructor
  · rw [h]
    refine Nat.le_trans (List.length_filter_le _ _) ?_
    rw [List.length_map, List.length_range]; exact hk
  · intro c hc
    rw [h] at hc
    obtain ⟨i, hi, rfl⟩ := List.mem_map.mp (List.mem_filter.mp hc).1
    have := List.mem_range.mp hi
    show 97 + i < 128
    omega
/-- what a cut is -/
theorem isC_form {k U : Nat} {v : D} (h : isC k U v = true) : ∃ (u m : Nat) (ws : List Nat), v = .tup [nD u, nD m, .str (W ws)] ∧ u < U ∧ m ≤ 20 ∧ clB k ws = true := by
  unfold isC at h
  split at h
  · rename_i a b c
    rw [Bool.and_eq_true, Bool.and_eq_true] at h
    obtain ⟨⟨h1, h2⟩, h3⟩ := h
    obtain ⟨u, rfl, _, hu⟩ := isIn_form h1 (Int.le_refl _)
    obtain ⟨m, rfl, _, hm⟩ := isIn_form h2 (Int.le_refl _)
    cases c with
    | str s => exact ⟨u, m, s.cps.toList, by rw [W_of'], by omega, by omega, h3⟩
    | _ => cases h3
  · cases h
theorem isC_ql {k U : Nat} {v : D} (h : isC k U v = true) : v.ql = true := by
  obtain ⟨u, m, ws, rfl, _⟩ := isC_form h
  rfl
theorem isC_gd {k U : Nat} (hk : k ≤ 4) (hU : U ≤ 2) {v : D} (h : isC k U v = true) : Gd v 1 7 := by
  obtain ⟨u, m, ws, rfl, hu, hm, hw⟩ := isC_form h
  obtain ⟨w1, w2⟩ := clB_small hk hw
  have gs : Gd (.str (W ws)) 0 4 := Gd.str (by
    rw [W_list, List.all_eq_true]
    intro c hc
    exact decide_eq_true (Nat.lt_trans (w2 c hc) (by decide))) (by rw [← Array.length_toList, W_list]; exact w1)
  exact Gd.tup (Gds.cons (Gd.nat (by omega)) (Gds.cons (Gd.nat (by omega)) (Gds.cons gs (Gds.nil (b := 0)))))
theorem Cz.gd {k U : Nat} {cs : List D} (h : Cz k U cs) (hk : k ≤ 4) (hU : U ≤ 2) : Gd (.tup cs) 2 24 := by
  have := Gds.all (ds := cs) (n := 1) (b := 7) fun d hd => isC_gd hk hU (h.ok d hd)
  have h3 := h.n3
  exact (Gd.tup this).mono (Nat.le_refl _) (by omega)
theorem qlA {ds : List D} (h : ∀ d ∈ ds, d.ql = true) : (D.tup ds).ql = true := qlAll_of h
theorem Cz.ql {k U : Nat} {cs : List D} (h : Cz k U cs) : ∀ d ∈ cs, d.ql = true := fun d hd => isC_ql (h.ok d hd)
theorem dr_ql {d : D} (h : d.ql = true) (st : S) : dr st d = d := dr_of fun m e => by
  rw [e] at h
  cases h
theorem ql_mem {ds : List D} (h : (D.tup ds).ql = true) {x : D} (hx : x ∈ ds) : x.ql = true := by
  have h : qlAll ds = true := h
  induction ds with
  | nil => cases hx
  | cons y r ih =>
    have h' : (y.ql && qlAll r) = true := h
    rw [Bool.and_eq_true] at h'
    rcases List.mem_cons.mp hx with z | z
    · rw [z]; exact h'.1
    · exact ih h'.2 z h'.2
theorem cerr_iff {k U : Nat} {cs : List D} : nonD (cerr k U (.tup cs)) = true ↔ Cz k U cs := by
  unfold cerr
  dsimp only
  cases hb : badAt k U cs with
  | some i =>
    refine ⟨fun h => (by cases h), fun h => ?_⟩
    unfold badAt at hb
    obtain ⟨hi, hx, _⟩ := List.findIdx?_eq_some_iff_getElem.mp hb
    rw [h.ok _ (List.getElem_mem hi)] at hx
    cases hx
  | none =>
    unfold badAt at hb
    rw [List.findIdx?_eq_none_iff] at hb
    dsimp only
    by_cases h3 : 3 < cs.length
    · rw [if_pos h3]
      exact ⟨fun h => (by cases h), fun h => absurd h.n3 (by omega)⟩
    · rw [if_neg h3]
      refine ⟨fun _ => ⟨by omega, fun c hc => ?_⟩, fun _ => rfl⟩
      have := hb c hc
      simpa using this
theorem cerr_non {k U : Nat} {v : D} (h : nonD (cerr k U v) = true) : cerr k U v = .non := by
  generalize cerr k U v = d at h
  cases d <;> first | rfl | cases h
theorem cerr_cz {k U : Nat} {cs : List D} (h : Cz k U cs) : cerr k U (.tup cs) = .non := cerr_non (cerr_iff.mpr h)
/-! ### edits -/
inductive Ed where
  | add (v : D) | drop (v : D) | change (v c : D) | lift (v : D) | allow (v m : D)
def Ed.d : Ed → D
  | .add v => .tup [.str "add", v]
  | .drop v => .tup [.str "drop", v]
  | .change v c => .tup [.str "change", v, c]
  | .lift v => .tup [.str "lift", v]
  | .allow v m => .tup [.str "allow", v, m]
def Ed.ql : Ed → Prop
  | .add v => v.ql = true
  | .drop v => v.ql = true
  | .change v c => v.ql = true ∧ c.ql = true
  | .lift v => v.ql = true
  | .allow v m => v.ql = true ∧ m.ql = true
def whole (v : D) (n : Nat) : Option Nat := match v with
  | .int i => if 0 ≤ i ∧ i < (n : Int) then some i.toNat else none
  | _ => none
inductive Af where
  | no (v : D) | to (cs : List D)
def lifted (cs : List D) (i : Nat) : List D := if i = 0 then cs else cs.take (i - 1) ++ [cs.getD i .non, cs.getD (i - 1) .non] ++ cs.drop (i + 1)
def allowed (m : D) : D → D
  | .tup [a, _, c] => .tup [a, m, c]
  | d => d
def put (cs : List D) (i : Nat) (x : D) : List D := cs.take i ++ [x] ++ cs.drop (i + 1)
def at' (cs : List D) (v : D) (f : Nat → List D) : Af := match whole v cs.length with
  | none => .no v
  | some i => .to (f i)
def after (cs : List D) : Ed → Af
  | .add v => .to (cs ++ [v])
  | .drop v => at' cs v fun i => cs.take i ++ cs.drop (i + 1)
  | .change v c => at' cs v fun i => put cs i c
  | .lift v => at' cs v fun i => lifted cs i
  | .allow v m => at' cs v fun i => put cs i (allowed m (cs.getD i .non))
inductive Rs where
  | ok (cs : List D) | no (v : D) | bad (e : D)
def due (k U : Nat) (cs : List D) (e : Ed) : Rs := match after cs e with
  | .no v => .no v
  | .to ds => if nonD (cerr k U (.tup ds)) = true then .ok ds else .bad (cerr k U (.tup ds))
theorem whole_lt {v : D} {n i : Nat} (h : whole v n = some i) : i < n ∧ v = nD i := by
  unfold whole at h
  split at h
  · rename_i j
    split at h
    · rename_i hj
      cases h
      refine ⟨by omega, ?_⟩
      show D.int j = D.int _
      rw [Int.toNat_of_nonneg hj.1]
    · cases h
  · cases h
theorem whole_in (v : D) (n : Nat) : (whole v n).isSome = isIn v 0 ((n : Int) - 1) := by
  unfold whole isIn
  cases v with
  | int i =>
    by_cases h : 0 ≤ i ∧ i < (n : Int)
    · have h2 : 0 ≤ i ∧ i ≤ (n : Int) - 1 := ⟨h.1, by omega⟩
      simp only [if_pos h, decide_eq_true h2, Option.isSome_some]
    · have h2 : ¬ (0 ≤ i ∧ i ≤ (n : Int) - 1) := fun z => h ⟨z.1, by omega⟩
      simp only [if_neg h, decide_eq_false h2, Option.isSome_none]
  | _ => rfl
theorem due_cz {k U : Nat} {cs ds : List D} {e : Ed} (h : due k U cs e = .ok ds) : Cz k U ds := by
  unfold due at h
  split at h
  · cases h
  · split at h
    · rename_i hh
      cases h
      exact cerr_iff.mp hh
    · cases h
section
variable {k U : Nat} {cs : List D} (h : Cz k U cs)
include h
theorem cz_drop (i : Nat) (hi : i < cs.length) : Cz k U (cs.take i ++ cs.drop (i + 1)) := by
  have h3 := h.n3
  refine ⟨by rw [List.length_append, List.length_take, List.length_drop]; omega, fun c hc => ?_⟩
  rcases List.mem_append.mp hc with z | z
  · exact h.ok c (List.mem_of_mem_take z)
  · exact h.ok c (List.mem_of_mem_drop z)
theorem cz_lift (i : Nat) (hi : i < cs.length) : Cz k U (lifted cs i) := by
  unfold lifted
  split
  · exact h
  · rename_i h0
    have h3 := h.n3
    refine ⟨by rw [List.length_append, List.length_append, List.length_take, List.length_drop]; simp; omega, fun c hc => ?_⟩
    rcases List.mem_append.mp hc with z | z
    · rcases List.mem_append.mp z with z | z
      · exact h.ok c (List.mem_of_mem_take z)
      · have e1 : cs.getD i .non = cs[i] := by rw [List.getD_eq_getElem?_getD, List.getElem?_eq_getElem hi]; rfl
        have e2 : cs.getD (i - 1) .non = cs[i - 1] := by rw [List.getD_eq_getElem?_getD, List.getElem?_eq_getElem (by omega)]; rfl
        rw [e1, e2] at z
        rcases List.mem_cons.mp z with z | z
        · rw [z]; exact h.ok _ (List.getElem_mem _)
        · rw [List.mem_singleton.mp z]; exact h.ok _ (List.getElem_mem _)
    · exact h.ok c (List.mem_of_mem_drop z)
theorem due_drop (v : D) : due k U cs (.drop v) = match whole v cs.length with | none => .no v | some i => .ok (cs.take i ++ cs.drop (i + 1)) := by
  unfold due after at'
  dsimp only
  cases hw : whole v cs.length with
  | none => rfl
  | some i =>
    dsimp only
    rw [if_pos (cerr_iff.mpr (cz_drop h i (whole_lt hw).1))]
theorem due_lift (v : D) : due k U cs (.lift v) = match whole v cs.length with | none => .no v | some i => .ok (lifted cs i) := by
  unfold due after at'
  dsimp only
  cases hw : whole v cs.length with
  | none => rfl
  | some i =>
    dsimp only
    rw [if_pos (cerr_iff.mpr (cz_lift h i (whole_lt hw).1))]
end
/-! ### slices of tuples -/
theorem cutD_toN {ds : List D} {n : Nat} : cutD ds none (some ((n : Nat) : Int)) = ds.take n := by
  unfold cutD
  rw [HT.sIx_none, HT.sIx_nat]
  show (ds.drop 0).take (min n ds.length - 0) = _
  rw [List.drop_zero, Nat.sub_zero]
  by_cases h : n ≤ ds.length
  · rw [Nat.min_eq_left h]
  · rw [Nat.min_eq_right (by omega), List.take_of_length_le (Nat.le_refl _), List.take_of_length_le (by omega)]
theorem cutD_fromN {ds : List D} {n : Nat} : cutD ds (some ((n : Nat) : Int)) none = ds.drop n := by
  unfold cutD
  rw [HT.sIx_none, HT.sIx_nat, List.take_of_length_le (by rw [List.length_drop]; exact Nat.le_refl _)]
  by_cases h : n ≤ ds.length
  · rw [Nat.min_eq_left h]
  · rw [Nat.min_eq_right (by omega), List.drop_length, List.drop_of_length_le (by omega)]
section
variable {ww : WW} {f h : ME} {env : Sg} {st s1 s2 : S} {ds : List D} {n : Nat}
theorem slT_to (h1 : f env st = some (.tup ds, s1)) (h2 : h env s1 = some (nD n, s2)) : slM slAny f noP (prt h) env st = some (.tup (ds.take n), s2) := by
  have e2 : prt h env s1 = some (some ((n : Nat) : Int), s2) := by
    unfold prt
    rw [h2]; rfl
  rw [v_slM, h1, Option.bind_some]
  show ((prt h env s1).bind _) = _
  rw [e2, Option.bind_some]
  show ((slAny (dr s2 (.tup ds)) none (some ((n : Nat) : Int))).map _) = _
  rw [dr_tup, v_slT, cutD_toN]; rfl
theorem slT_from (h1 : f env st = some (.tup ds, s1)) (h2 : h env s1 = some (nD n, s2)) : slM slAny f (prt h) noP env st = some (.tup (ds.drop n), s2) := by
  have e2 : prt h env s1 = some (some ((n : Nat) : Int), s2) := by
    unfold prt
    rw [h2]; rfl
  rw [v_slM, h1, Option.bind_some, e2, Option.bind_some]
  show ((noP env s2).bind fun u => (slAny (dr u.2 (.tup ds)) (some ((n : Nat) : Int)) u.1).map fun z => (z, u.2)) = _
  show ((slAny (dr s2 (.tup ds)) (some ((n : Nat) : Int)) none).map fun z => (z, s2)) = _
  rw [dr_tup, v_slT, cutD_fromN]; rfl
end
/-! ### classes of data -/
theorem kb_NoneType_int : kitB "NoneType" "int" = some false := by decide +kernel
theorem kb_bool_int : kitB "bool" "int" = some true := by decide +kernel
theorem kb_int_int : kitB "int" "int" = some true := by decide +kernel
theorem kb_str_int : kitB "str" "int" = some false := by decide +kernel
theorem kb_list_int : kitB "list" "int" = some false := by decide +kernel
theorem kb_tuple_int : kitB "tuple" "int" = some false := by decide +kernel
theorem kb_dict_int : kitB "dict" "int" = some false := by decide +kernel
theorem kb_NoneType_tuple : kitB "NoneType" "tuple" = some false := by decide +kernel
theorem kb_bool_tuple : kitB "bool" "tuple" = some false := by decide +kernel
theorem kb_int_tuple : kitB "int" "tuple" = some false := by decide +kernel
theorem kb_str_tuple : kitB "str" "tuple" = some false := by decide +kernel
theorem kb_list_tuple : kitB "list" "tuple" = some false := by decide +kernel
theorem kb_tuple_tuple : kitB "tuple" "tuple" = some true := by decide +kernel
theorem kb_dict_tuple : kitB "dict" "tuple" = some false := by decide +kernel
theorem kb_NoneType_str : kitB "NoneType" "str" = some false := by decide +kernel
theorem kb_bool_str : kitB "bool" "str" = some false := by decide +kernel
theorem kb_int_str : kitB "int" "str" = some false := by decide +kernel
theorem kb_str_str : kitB "str" "str" = some true := by decide +kernel
theorem kb_list_str : kitB "list" "str" = some false := by decide +kernel
theorem kb_tuple_str : kitB "tuple" "str" = some false := by decide +kernel
theorem kb_dict_str : kitB "dict" "str" = some false := by decide +kernel
theorem kb_bool_bool : kitB "bool" "bool" = some true := by decide +kernel
theorem kb_int_bool : kitB "int" "bool" = some false := by decide +kernel
theorem ist_ty {d : D} (hq : d.ql = true) : ((tyD d).bind fun t => kitB t "tuple") = some (isTup d) := by
  cases d with
  | deck => cases hq
  | ref _ => cases hq
  | non => exact kb_NoneType_tuple
  | bl b => exact kb_bool_tuple
  | int i => exact kb_int_tuple
  | str x => exact kb_str_tuple
  | lst x => exact kb_list_tuple
  | tup x => exact kb_tuple_tuple
  | dic x y => exact kb_dict_tuple
theorem iss_ty {d : D} (hq : d.ql = true) : ((tyD d).bind fun t => kitB t "str") = some (isStrB d) := by
  cases d with
  | deck => cases hq
  | ref _ => cases hq
  | non => exact kb_NoneType_str
  | bl b => exact kb_bool_str
  | int i => exact kb_int_str
  | str x => exact kb_str_str
  | lst x => exact kb_list_str
  | tup x => exact kb_tuple_str
  | dic x y => exact kb_dict_str
/-- an integer by its class: none, a bool, another -/
theorem isi_ty {d : D} (hq : d.ql = true) : (((tyD d).bind fun t => kitB t "int") = some false ∧ ∀ lo hi, isIn d lo hi = false) ∨ (((tyD d).bind fun t => kitB t "int") = some true ∧ ((tyD d).bind fun t => kitB t "bool") = some true ∧ ∀ lo hi, isIn d lo hi = false) ∨ ∃ i, d = .int i := by
  cases d with
  | deck => cases hq
  | ref _ => cases hq
  | non => exact .inl ⟨kb_NoneType_int, fun _ _ => rfl⟩
  | bl b => exact .inr (.inl ⟨kb_bool_int, kb_bool_bool, fun _ _ => rfl⟩)
  | int i => exact .inr (.inr ⟨i, rfl⟩)
  | str x => exact .inl ⟨kb_str_int, fun _ _ => rfl⟩
  | lst x => exact .inl ⟨kb_list_int, fun _ _ => rfl⟩
  | tup x => exact .inl ⟨kb_tuple_int, fun _ _ => rfl⟩
  | dic x y => exact .inl ⟨kb_dict_int, fun _ _ => rfl⟩
end Lw

set_option Elab.async false
set_option linter.all false
set_option maxRecDepth 100000
set_option maxHeartbeats 1000000
namespace Lx
open PySem MD L2 Lc Lw
variable {ww : WW}
/-! ### mirrors that raise, one thing at a time -/
section
variable {f h : MSX} {env e : Sg} {st s1 s2 : S} {d : D} {c g : Str} {r : Option (Fx × S)}
theorem seq_nx (hf : f env st = some (.fl (.nx e), s1)) : seqX f h env st = h e s1 := by unfold seqX; rw [hf]; rfl
theorem seq_rt (hf : f env st = some (.fl (.rt d), s1)) : seqX f h env st = some (.fl (.rt d), s1) := by unfold seqX; rw [hf]; rfl
theorem seq_xc (hf : f env st = some (.xc c g d, s1)) : seqX f h env st = some (.xc c g d, s1) := by unfold seqX; rw [hf]; rfl
theorem li_of {f : MS} {x : Fl} (hf : f env st = some (x, s1)) : liX f env st = some (.fl x, s1) := by unfold liX; rw [hf]; rfl
theorem if_t {t : MT} (hc : t env st = some (true, s1)) (hf : f env s1 = r) : ifX t f h env st = r := by unfold ifX; rw [hc]; exact hf
theorem if_f {t : MT} (hc : t env st = some (false, s1)) (hf : h env s1 = r) : ifX t f h env st = r := by unfold ifX; rw [hc]; exact hf
theorem rai_of {v : ME} (hv : v env st = some (d, s1)) : raiX c g v env st = some (.xc c g d, s1) := by unfold raiX; rw [hv]; rfl
def fxR : Rx → Fx
  | .ok d => .fl (.rt d)
  | .xc c g d => .xc c g d
theorem ret_of {x : MEX} {y : Rx} (hx : x env st = some (y, s1)) : retX x env st = some (fxR y, s1) := by
  unfold retX
  rw [hx]
  cases y <;> rfl
theorem asg_of {x : MEX} {i : Nat} (hx : x env st = some (.ok d, s1)) : asgX (nameT i) x env st = some (.fl (.nx (env.set i (.val d))), s1) := by unfold asgX; rw [hx]; rfl
theorem asg_xc {x : MEX} {t : MG} (hx : x env st = some (.xc c g d, s1)) : asgX t x env st = some (.xc c g d, s1) := by unfold asgX; rw [hx]; rfl
theorem drp_of {x : MEX} (hx : x env st = some (.ok d, s1)) : drpX x env st = some (.fl (.nx env), s1) := by unfold drpX; rw [hx]; rfl
theorem drp_xc {x : MEX} (hx : x env st = some (.xc c g d, s1)) : drpX x env st = some (.xc c g d, s1) := by unfold drpX; rw [hx]; rfl
theorem run_of {n : Nat} {b : MSX} {ds : List D} {y : Rx} (hb : b (ds.map Sl.val ++ List.replicate (n - ds.length) Sl.un) st = some (fxR y, s1)) : runX n b ds st = some (y, s1) := by
  unfold runX
  rw [hb]
  cases y <;> rfl
theorem run_nx {n : Nat} {b : MSX} {ds : List D} (hb : b (ds.map Sl.val ++ List.replicate (n - ds.length) Sl.un) st = some (.fl (.nx e), s1)) : runX n b ds st = some (.ok .non, s1) := by
  unfold runX
  rw [hb]; rfl
end
section
variable {env : Sg} {st s1 s2 s3 : S} {d : D} {ds : List D} {c g m : Str} {r : Option (Rx × S)}
theorem pu_of {f : ME} (h : f env st = some (d, s1)) : puX f env st = some (.ok d, s1) := by unfold puX; rw [h]; rfl
theorem puA_of {a : MA} (h : a env st = some (ds, s1)) : puA a env st = some (.ok ds, s1) := by unfold puA; rw [h]; rfl
theorem cons_of {f : MEX} {a : MAX} (h : f env st = some (.ok d, s1)) (h2 : a env s1 = some (.ok ds, s2)) : consX f a env st = some (.ok (d :: ds), s2) := by unfold consX; rw [h, Option.bind_some]; dsimp only; rw [h2]; rfl
theorem cons_xc {f : MEX} {a : MAX} (h : f env st = some (.xc c g d, s1)) : consX f a env st = some (.xc c g d, s1) := by unfold consX; rw [h]; rfl
theorem cons_xc2 {f : MEX} {a : MAX} {e : D} (h : f env st = some (.ok e, s1)) (h2 : a env s1 = some (.xc c g d, s2)) : consX f a env st = some (.xc c g d, s2) := by unfold consX; rw [h, Option.bind_some]; dsimp only; rw [h2]; rfl
theorem call_of {mf : MFX} {a : MAX} (h : a env st = some (.ok ds, s1)) (h2 : mf ds s1 = r) : callX mf a env st = r := by unfold callX; rw [h]; exact h2
theorem call_xc {mf : MFX} {a : MAX} (h : a env st = some (.xc c g d, s1)) : callX mf a env st = some (.xc c g d, s1) := by unfold callX; rw [h]; rfl
theorem met_of {mf : MFX} {fo : ME} {a : MAX} {n : Nat} {fs : List Str} {xs : List D} (h : fo env st = some (.ref n, s1)) (hn : s1.ob[n]? = some (.ins c fs xs)) (hm : m ∉ fs) (ha : a env s1 = some (.ok ds, s2)) (hf : mf (.ref n :: ds) s2 = r) : metX c m mf fo a env st = r := by
  unfold metX
  rw [h]
  show (insAt [c] s1 n).bind _ = _
  unfold insAt
  rw [hn]
  simp [hm, ha, hf]
theorem met_xc {mf : MFX} {fo : ME} {a : MAX} {n : Nat} {fs : List Str} {xs : List D} {c2 : Str} (h : fo env st = some (.ref n, s1)) (hn : s1.ob[n]? = some (.ins c fs xs)) (hm : m ∉ fs) (ha : a env s1 = some (.xc c2 g d, s2)) : metX c m mf fo a env st = some (.xc c2 g d, s2) := by
  unfold metX
  rw [h]
  show (insAt [c] s1 n).bind _ = _
  unfold insAt
  rw [hn]
  simp [hm, ha]
theorem metD_of {mf : MF} {fo : ME} {a : MAX} {n : Nat} {fs : List Str} {xs : List D} (h : fo env st = some (.ref n, s1)) (hn : s1.ob[n]? = some (.ins c fs xs)) (hm : m ∉ fs) (ha : a env s1 = some (.ok ds, s2)) (hf : mf (.ref n :: ds) s2 = some (d, s3)) : metDX c m mf fo a env st = some (.ok d, s3) := by
  unfold metDX
  rw [h]
  show (insAt [c] s1 n).bind _ = _
  unfold insAt
  rw [hn]
  simp [hm, ha, hf]
theorem metD_xc {mf : MF} {fo : ME} {a : MAX} {n : Nat} {fs : List Str} {xs : List D} {c2 : Str} (h : fo env st = some (.ref n, s1)) (hn : s1.ob[n]? = some (.ins c fs xs)) (hm : m ∉ fs) (ha : a env s1 = some (.xc c2 g d, s2)) : metDX c m mf fo a env st = some (.xc c2 g d, s2) := by
  unfold metDX
  rw [h]
  show (insAt [c] s1 n).bind _ = _
  unfold insAt
  rw [hn]
  simp [hm, ha]
theorem ife_t {t : MT} {f h : MEX} (hc : t env st = some (true, s1)) (hf : f env s1 = r) : ifEX t f h env st = r := by unfold ifEX; rw [hc]; exact hf
theorem ife_f {t : MT} {f h : MEX} (hc : t env st = some (false, s1)) (hf : h env s1 = r) : ifEX t f h env st = r := by unfold ifEX; rw [hc]; exact hf
end
/-! ### words compared -/
section
variable {f h : ME} {env : Sg} {st s1 s2 : S} {a b : Str} {c : Bool}
theorem eqS (h1 : f env st = some (.str a, s1)) (h2 : h env s1 = some (.str b, s2)) (hc : decide (a.cps.toList = b.cps.toList) = c) : tstM (opM eqM f h) env st = some (c, s2) := by
  rw [← W_of' a] at h1
  rw [← W_of' b] at h2
  rw [← hc]
  exact Lm.tst_of (eq_W h1 h2)
theorem neS (h1 : f env st = some (.str a, s1)) (h2 : h env s1 = some (.str b, s2)) (hc : decide (a.cps.toList = b.cps.toList) = c) : tstM (opM neM f h) env st = some (!c, s2) := by
  rw [← W_of' a] at h1
  rw [← W_of' b] at h2
  rw [← hc]
  exact Lm.tst_of (ne_W h1 h2)
theorem tup3 {x y z : ME} {d0 d1 d2 : D} (h0 : x env st = some (d0, st)) (h1 : y env st = some (d1, st)) (h2 : z env st = some (d2, st)) : tupM (aCons x (aCons y (aCons z aNil))) env st = some (.tup [d0, d1, d2], st) := by
  rw [v_tupM, Lm.cons_of h0 (Lm.cons_of h1 (Lm.cons_of h2 v_aNil)), Option.bind_some]
  exact grd_of (show 3 ≤ 1000000 by decide)
end
end Lx

set_option Elab.async false
set_option linter.all false
set_option maxRecDepth 100000
set_option maxHeartbeats 4000000
namespace Lw
open PySem MD L2
/-! ### errors as values -/
def eX (st : S) (l : List Str) : S := Xs st (l.map Ob.exc)
theorem eX_nil (st : S) : eX st [] = st := Xs_nil st
theorem eX_at {st : S} {l : List Str} {i : Nat} {c : Str} (h : l[i]? = some c) : (eX st l).ob[st.ob.length + i]? = some (.exc c) := by
  unfold eX
  rw [Xs_at, List.getElem?_map, h]; rfl
theorem eX_len (st : S) (l : List Str) : (eX st l).ob.length = st.ob.length + l.length := by
  unfold eX
  rw [Xs_len, List.length_map]
theorem eX_ad (st : S) (l : List Str) (c : Str) : (eX st l).ad (.exc c) = eX st (l ++ [c]) := by
  unfold eX
  rw [Xs_ad, List.map_append]; rfl
section
variable {st : S} {l : List Str} {c : Str} {env : Sg} {f : ME} {d : D}
theorem mkx_of (h : f env (eX st l) = some (d, eX st l)) : mkxM c f env (eX st l) = some (.ref (st.ob.length + l.length), eX st (l ++ [c])) := by
  unfold mkxM
  rw [h, Option.bind_some]
  show some (D.ref (eX st l).ob.length, (eX st l).ad (.exc c)) = _
  rw [eX_len, eX_ad]
theorem mk0_of : mk0M c env (eX st l) = some (.ref (st.ob.length + l.length), eX st (l ++ [c])) := by
  unfold mk0M
  rw [eX_len, eX_ad]
theorem isx_of {tb : List (Str × Bool)} {b : Bool} {s1 s2 : S} {n : Nat} (h : f env s1 = some (.ref n, s2)) (hn : s2.ob[n]? = some (.exc c)) (ht : tb.lookup c = some b) : isxM tb f env s1 = some (.bl b, s2) := by
  unfold isxM
  rw [h, Option.bind_some]
  show ((some n).bind fun n => match s2.ob[n]? with
    | some (.exc c) => (tb.lookup c).map fun b => (D.bl b, s2)
    | _ => none) = _
  rw [Option.bind_some, hn]
  show (tb.lookup c).map _ = _
  rw [ht]; rfl
theorem op_of {g : D → D → Option D} {h : ME} {x y z : D} {s1 s2 s3 : S} (h1 : f env s1 = some (x, s2)) (h2 : h env s2 = some (y, s3)) (hx : ∀ s, dr s x = x) (hy : ∀ s, dr s y = y) (h3 : g x y = some z) : opM g f h env s1 = some (z, s3) := by
  rw [v_opM, h1, Option.bind_some, h2, Option.bind_some]
  show (g (dr s3 x) (dr s3 y)).map _ = _
  rw [hx, hy, h3]; rfl
theorem notV_of {b : Bool} {s1 s2 : S} (h : f env s1 = some (.bl b, s2)) : notV f env s1 = some (.bl (!b), s2) := by rw [v_notV, h]; rfl
theorem forL_st {t : MG} {b : MS} {ds : List D} {e1 e2 : Sg} {s1 s2 : S} (h1 : t d env = some e1) (h2 : b e1 s1 = some (.nx e2, s2)) : forL t b (d :: ds) env s1 = forL t b ds e2 s2 := by
  rw [v_forL, h1, Option.bind_some, h2]; rfl
end
def e13 : List Str := ["BadText", "BadScheme", "BadCuts", "BadWord", "BadLimit", "Overlong", "Busy", "TooManyEdits", "NothingToUndo", "NothingToRedo", "BadEdits", "BadEdit", "Rejected"]
def e16 : List Str := ["BadText", "BadScheme", "BadCuts", "BadWord", "BadLimit", "Overlong", "Busy", "TooManyEdits", "NothingToUndo", "NothingToRedo", "BadEdits", "BadEdit", "Rejected", "NoCut", "NoVersion", "UnitError"]
/-- of which of the classes c is -/
def kb (c : Str) : List Bool := e13.map fun z => decide (z = c)
def kd (c : Str) : D := .lst ((kb c).map .bl)
theorem tl_BadText : ∀ c ∈ e16, tb_BadText.lookup c = some (decide ("BadText" = c)) := by decide +kernel
theorem tl_BadScheme : ∀ c ∈ e16, tb_BadScheme.lookup c = some (decide ("BadScheme" = c)) := by decide +kernel
theorem tl_BadCuts : ∀ c ∈ e16, tb_BadCuts.lookup c = some (decide ("BadCuts" = c)) := by decide +kernel
theorem tl_BadWord : ∀ c ∈ e16, tb_BadWord.lookup c = some (decide ("BadWord" = c)) := by decide +kernel
theorem tl_BadLimit : ∀ c ∈ e16, tb_BadLimit.lookup c = some (decide ("BadLimit" = c)) := by decide +kernel
theorem tl_Overlong : ∀ c ∈ e16, tb_Overlong.lookup c = some (decide ("Overlong" = c)) := by decide +kernel
theorem tl_Busy : ∀ c ∈ e16, tb_Busy.lookup c = some (decide ("Busy" = c)) := by decide +kernel
theorem tl_TooManyEdits : ∀ c ∈ e16, tb_TooManyEdits.lookup c = some (decide ("TooManyEdits" = c)) := by decide +kernel
theorem tl_NothingToUndo : ∀ c ∈ e16, tb_NothingToUndo.lookup c = some (decide ("NothingToUndo" = c)) := by decide +kernel
theorem tl_NothingToRedo : ∀ c ∈ e16, tb_NothingToRedo.lookup c = some (decide ("NothingToRedo" = c)) := by decide +kernel
theorem tl_BadEdits : ∀ c ∈ e16, tb_BadEdits.lookup c = some (decide ("BadEdits" = c)) := by decide +kernel
theorem tl_BadEdit : ∀ c ∈ e16, tb_BadEdit.lookup c = some (decide ("BadEdit" = c)) := by decide +kernel
theorem tl_Rejected : ∀ c ∈ e16, tb_Rejected.lookup c = some (decide ("Rejected" = c)) := by decide +kernel
theorem kinds_ok {st : S} {n : Nat} {c : Str} (hn : st.ob[n]? = some (.exc c)) (hc : c ∈ e16) : m__law_kinds [.ref n] st = some (kd c, st) := by
  refine Lm.run_of ?_
  unfold b__law_kinds
  refine (Lm.seq_nx (Lm.asg_nx (d := .lst [.bl (decide (("BadText" : Str) = c)), .bl (decide (("BadScheme" : Str) = c)), .bl (decide (("BadCuts" : Str) = c)), .bl (decide (("BadWord" : Str) = c))]) (Lm.lst_of (Lm.cons_of (isx_of (f := rd 0) rfl hn (tl_BadText c hc)) (Lm.cons_of (isx_of (f := rd 0) rfl hn (tl_BadScheme c hc)) (Lm.cons_of (isx_of (f := rd 0) rfl hn (tl_BadCuts c hc)) (Lm.cons_of (isx_of (f := rd 0) rfl hn (tl_BadWord c hc)) v_aNil)))) (by simp)))).trans ?_
  refine (Lm.seq_nx (Lm.asg_nx (d := .lst [.bl (decide (("BadText" : Str) = c)), .bl (decide (("BadScheme" : Str) = c)), .bl (decide (("BadCuts" : Str) = c)), .bl (decide (("BadWord" : Str) = c)), .bl (decide (("BadLimit" : Str) = c)), .bl (decide (("Overlong" : Str) = c)), .bl (decide (("Busy" : Str) = c))]) (Lm.add_lst (f := rd 1) (xs := [.bl (decide (("BadText" : Str) = c)), .bl (decide (("BadScheme" : Str) = c)), .bl (decide (("BadCuts" : Str) = c)), .bl (decide (("BadWord" : Str) = c))]) rfl (Lm.lst_of (ds := [.bl (decide (("BadLimit" : Str) = c)), .bl (decide (("Overlong" : Str) = c)), .bl (decide (("Busy" : Str) = c))]) (Lm.cons_of (isx_of (f := rd 0) rfl hn (tl_BadLimit c hc)) (Lm.cons_of (isx_of (f := rd 0) rfl hn (tl_Overlong c hc)) (Lm.cons_of (isx_of (f := rd 0) rfl hn (tl_Busy c hc)) v_aNil))) (by simp)) (by simp)))).trans ?_
  refine (Lm.seq_nx (Lm.asg_nx (d := .lst [.bl (decide (("BadText" : Str) = c)), .bl (decide (("BadScheme" : Str) = c)), .bl (decide (("BadCuts" : Str) = c)), .bl (decide (("BadWord" : Str) = c)), .bl (decide (("BadLimit" : Str) = c)), .bl (decide (("Overlong" : Str) = c)), .bl (decide (("Busy" : Str) = c)), .bl (decide (("TooManyEdits" : Str) = c)), .bl (decide (("NothingToUndo" : Str) = c)), .bl (decide (("NothingToRedo" : Str) = c))]) (Lm.add_lst (f := rd 1) (xs := [.bl (decide (("BadText" : Str) = c)), .bl (decide (("BadScheme" : Str) = c)), .bl (decide (("BadCuts" : Str) = c)), .bl (decide (("BadWord" : Str) = c)), .bl (decide (("BadLimit" : Str) = c)), .bl (decide (("Overlong" : Str) = c)), .bl (decide (("Busy" : Str) = c))]) rfl (Lm.lst_of (ds := [.bl (decide (("TooManyEdits" : Str) = c)), .bl (decide (("NothingToUndo" : Str) = c)), .bl (decide (("NothingToRedo" : Str) = c))]) (Lm.cons_of (isx_of (f := rd 0) rfl hn (tl_TooManyEdits c hc)) (Lm.cons_of (isx_of (f := rd 0) rfl hn (tl_NothingToUndo c hc)) (Lm.cons_of (isx_of (f := rd 0) rfl hn (tl_NothingToRedo c hc)) v_aNil))) (by simp)) (by simp)))).trans ?_
  exact Lm.ret_of (Lm.add_lst (f := rd 1) (xs := [.bl (decide (("BadText" : Str) = c)), .bl (decide (("BadScheme" : Str) = c)), .bl (decide (("BadCuts" : Str) = c)), .bl (decide (("BadWord" : Str) = c)), .bl (decide (("BadLimit" : Str) = c)), .bl (decide (("Overlong" : Str) = c)), .bl (decide (("Busy" : Str) = c)), .bl (decide (("TooManyEdits" : Str) = c)), .bl (decide (("NothingToUndo" : Str) = c)), .bl (decide (("NothingToRedo" : Str) = c))]) rfl (Lm.lst_of (ds := [.bl (decide (("BadEdits" : Str) = c)), .bl (decide (("BadEdit" : Str) = c)), .bl (decide (("Rejected" : Str) = c))]) (Lm.cons_of (isx_of (f := rd 0) rfl hn (tl_BadEdits c hc)) (Lm.cons_of (isx_of (f := rd 0) rfl hn (tl_BadEdit c hc)) (Lm.cons_of (isx_of (f := rd 0) rfl hn (tl_Rejected c hc)) v_aNil))) (by simp)) (by simp))
end Lw

set_option Elab.async false
set_option linter.all false
set_option maxRecDepth 100000
set_option maxHeartbeats 4000000
namespace Lw
open PySem MD L2
theorem fields_ok (x : D) (st : S) : m__law_fields [x] st = some (.lst (List.replicate 10 x), st) := by
  refine Lm.run_of ?_
  unfold b__law_fields
  refine (Lm.seq_nx (Lm.asg_nx (d := .lst [x, x, x, x, x]) (Lm.lst_of (Lm.cons_of (f := mkfM "BadText" "line" (rd 0)) (s1 := st) (d := x) rfl (Lm.cons_of (f := mkfM "BadScheme" "error" (rd 0)) (s1 := st) (d := x) rfl (Lm.cons_of (f := mkfM "BadCuts" "error" (rd 0)) (s1 := st) (d := x) rfl (Lm.cons_of (f := mkfM "BadWord" "word" (rd 0)) (s1 := st) (d := x) rfl (Lm.cons_of (f := mkfM "BadLimit" "limit" (rd 0)) (s1 := st) (d := x) rfl v_aNil))))) (by simp)))).trans ?_
  exact Lm.ret_of (Lm.add_lst (f := rd 1) (xs := [x, x, x, x, x]) rfl (Lm.lst_of (ds := [x, x, x, x, x]) (Lm.cons_of (f := mkfM "Overlong" "word" (rd 0)) (s1 := st) (d := x) rfl (Lm.cons_of (f := mkfM "BadEdit" "index" (rd 0)) (s1 := st) (d := x) rfl (Lm.cons_of (f := mkfM "Rejected" "index" (rd 0)) (s1 := st) (d := x) rfl (Lm.cons_of (f := mkfM "NoCut" "index" (rd 0)) (s1 := st) (d := x) rfl (Lm.cons_of (f := mkfM "NoVersion" "version" (rd 0)) (s1 := st) (d := x) rfl v_aNil))))) (by simp)) (by simp))
abbrev cmpC : ME := frz (compM (r1M (aCons (cst (.int 13)) aNil)) (nameT 4) yesM (opM eqM (rd 4) (rd 2)) [4])
theorem cmp_0 (x0 x1 x3 x4 : Sl) (s : S) : cmpC [x0, x1, .val (.int 0), x3, x4] s = some (kd "BadText", s) := rfl
theorem ne_0 : neM (kd "BadText") (kd "BadText") = some (.bl false) := rfl
theorem cmp_1 (x0 x1 x3 x4 : Sl) (s : S) : cmpC [x0, x1, .val (.int 1), x3, x4] s = some (kd "BadScheme", s) := rfl
theorem ne_1 : neM (kd "BadScheme") (kd "BadScheme") = some (.bl false) := rfl
theorem cmp_2 (x0 x1 x3 x4 : Sl) (s : S) : cmpC [x0, x1, .val (.int 2), x3, x4] s = some (kd "BadCuts", s) := rfl
theorem ne_2 : neM (kd "BadCuts") (kd "BadCuts") = some (.bl false) := rfl
theorem cmp_3 (x0 x1 x3 x4 : Sl) (s : S) : cmpC [x0, x1, .val (.int 3), x3, x4] s = some (kd "BadWord", s) := rfl
theorem ne_3 : neM (kd "BadWord") (kd "BadWord") = some (.bl false) := rfl
theorem cmp_4 (x0 x1 x3 x4 : Sl) (s : S) : cmpC [x0, x1, .val (.int 4), x3, x4] s = some (kd "BadLimit", s) := rfl
theorem ne_4 : neM (kd "BadLimit") (kd "BadLimit") = some (.bl false) := rfl
theorem cmp_5 (x0 x1 x3 x4 : Sl) (s : S) : cmpC [x0, x1, .val (.int 5), x3, x4] s = some (kd "Overlong", s) := rfl
theorem ne_5 : neM (kd "Overlong") (kd "Overlong") = some (.bl false) := rfl
theorem cmp_6 (x0 x1 x3 x4 : Sl) (s : S) : cmpC [x0, x1, .val (.int 6), x3, x4] s = some (kd "Busy", s) := rfl
theorem ne_6 : neM (kd "Busy") (kd "Busy") = some (.bl false) := rfl
theorem cmp_7 (x0 x1 x3 x4 : Sl) (s : S) : cmpC [x0, x1, .val (.int 7), x3, x4] s = some (kd "TooManyEdits", s) := rfl
theorem ne_7 : neM (kd "TooManyEdits") (kd "TooManyEdits") = some (.bl false) := rfl
theorem cmp_8 (x0 x1 x3 x4 : Sl) (s : S) : cmpC [x0, x1, .val (.int 8), x3, x4] s = some (kd "NothingToUndo", s) := rfl
theorem ne_8 : neM (kd "NothingToUndo") (kd "NothingToUndo") = some (.bl false) := rfl
theorem cmp_9 (x0 x1 x3 x4 : Sl) (s : S) : cmpC [x0, x1, .val (.int 9), x3, x4] s = some (kd "NothingToRedo", s) := rfl
theorem ne_9 : neM (kd "NothingToRedo") (kd "NothingToRedo") = some (.bl false) := rfl
theorem cmp_10 (x0 x1 x3 x4 : Sl) (s : S) : cmpC [x0, x1, .val (.int 10), x3, x4] s = some (kd "BadEdits", s) := rfl
theorem ne_10 : neM (kd "BadEdits") (kd "BadEdits") = some (.bl false) := rfl
theorem cmp_11 (x0 x1 x3 x4 : Sl) (s : S) : cmpC [x0, x1, .val (.int 11), x3, x4] s = some (kd "BadEdit", s) := rfl
theorem ne_11 : neM (kd "BadEdit") (kd "BadEdit") = some (.bl false) := rfl
theorem cmp_12 (x0 x1 x3 x4 : Sl) (s : S) : cmpC [x0, x1, .val (.int 12), x3, x4] s = some (kd "Rejected", s) := rfl
theorem ne_12 : neM (kd "Rejected") (kd "Rejected") = some (.bl false) := rfl
end Lw

set_option Elab.async false
set_option linter.all false
set_option maxRecDepth 100000
set_option maxHeartbeats 4000000
namespace Lw
open PySem MD L2
section
variable {st : S} {a : D}
abbrev rs13 (st : S) : D := .lst [.ref (st.ob.length + 0), .ref (st.ob.length + 1), .ref (st.ob.length + 2), .ref (st.ob.length + 3), .ref (st.ob.length + 4), .ref (st.ob.length + 5), .ref (st.ob.length + 6), .ref (st.ob.length + 7), .ref (st.ob.length + 8), .ref (st.ob.length + 9), .ref (st.ob.length + 10), .ref (st.ob.length + 11), .ref (st.ob.length + 12)]
abbrev envR (st : S) (a : D) (x2 x3 : Sl) : Sg := [.val a, .val (rs13 st), x2, x3, .un]
noncomputable def trB : MS := (seqM (ifS (orM (tstM (opM neM (callM m__law_kinds (aCons (opM subD (rd 1) (rd 2)) aNil)) cmpC)) (truM (isxM tb_LookupError (opM subD (rd 1) (rd 2)))))
 (retM (cst (.bl false)))
 nxM)
 (ifS (orM (notM (truM (isxM tb_UnitError (opM subD (rd 1) (rd 2))))) (notM (truM (isxM tb_ValueError (opM subD (rd 1) (rd 2))))))
 (retM (cst (.bl false)))
 nxM))
theorem turn_of {k : Nat} {c : Str} {x2 x3 : Sl} {s : S} (hc : s.ob[st.ob.length + k]? = some (.exc c)) (hs : opM subD (rd 1) (rd 2) (envR st a (.val (.int k)) x3) s = some (.ref (st.ob.length + k), s)) (h16 : c ∈ e16) (hcm : cmpC (envR st a (.val (.int k)) x3) s = some (kd c, s)) (hne : neM (kd c) (kd c) = some (.bl false))
    (h1 : tb_LookupError.lookup c = some false) (h2 : tb_UnitError.lookup c = some true) (h3 : tb_ValueError.lookup c = some true) : trB (envR st a (.val (.int k)) x3) s = some (.nx (envR st a (.val (.int k)) x3), s) := by
  unfold trB
  refine (Lm.seq_nx (Lm.ifs_f (Lh.or_f (Lm.tst_of (op_of (Lm.call_of (Lm.cons_of hs v_aNil) (kinds_ok hc h16)) hcm (fun _ => rfl) (fun _ => rfl) hne)) (Lh.tru_of (isx_of hs hc h1))) v_nxM)).trans ?_
  exact Lm.ifs_f (Lh.or_f (Lh.not_of (Lh.tru_of (isx_of hs hc h2))) (Lh.not_of (Lh.tru_of (isx_of hs hc h3)))) v_nxM
theorem loop13 (x2 x3 : Sl) : forL (nameT 2) trB [.int 0, .int 1, .int 2, .int 3, .int 4, .int 5, .int 6, .int 7, .int 8, .int 9, .int 10, .int 11, .int 12] (envR st a x2 x3) (eX st e13) = some (.nx (envR st a (.val (.int 12)) x3), eX st e13) := by
  refine (forL_st (e1 := envR st a (.val (.int 0)) x3) rfl (turn_of (k := 0) (c := "BadText") (x2 := x2) (eX_at rfl) rfl (by decide +kernel) (cmp_0 _ _ _ _ _) ne_0 (by decide +kernel) (by decide +kernel) (by decide +kernel))).trans ?_
  refine (forL_st (e1 := envR st a (.val (.int 1)) x3) rfl (turn_of (k := 1) (c := "BadScheme") (x2 := x2) (eX_at rfl) rfl (by decide +kernel) (cmp_1 _ _ _ _ _) ne_1 (by decide +kernel) (by decide +kernel) (by decide +kernel))).trans ?_
  refine (forL_st (e1 := envR st a (.val (.int 2)) x3) rfl (turn_of (k := 2) (c := "BadCuts") (x2 := x2) (eX_at rfl) rfl (by decide +kernel) (cmp_2 _ _ _ _ _) ne_2 (by decide +kernel) (by decide +kernel) (by decide +kernel))).trans ?_
  refine (forL_st (e1 := envR st a (.val (.int 3)) x3) rfl (turn_of (k := 3) (c := "BadWord") (x2 := x2) (eX_at rfl) rfl (by decide +kernel) (cmp_3 _ _ _ _ _) ne_3 (by decide +kernel) (by decide +kernel) (by decide +kernel))).trans ?_
  refine (forL_st (e1 := envR st a (.val (.int 4)) x3) rfl (turn_of (k := 4) (c := "BadLimit") (x2 := x2) (eX_at rfl) rfl (by decide +kernel) (cmp_4 _ _ _ _ _) ne_4 (by decide +kernel) (by decide +kernel) (by decide +kernel))).trans ?_
  refine (forL_st (e1 := envR st a (.val (.int 5)) x3) rfl (turn_of (k := 5) (c := "Overlong") (x2 := x2) (eX_at rfl) rfl (by decide +kernel) (cmp_5 _ _ _ _ _) ne_5 (by decide +kernel) (by decide +kernel) (by decide +kernel))).trans ?_
  refine (forL_st (e1 := envR st a (.val (.int 6)) x3) rfl (turn_of (k := 6) (c := "Busy") (x2 := x2) (eX_at rfl) rfl (by decide +kernel) (cmp_6 _ _ _ _ _) ne_6 (by decide +kernel) (by decide +kernel) (by decide +kernel))).trans ?_
  refine (forL_st (e1 := envR st a (.val (.int 7)) x3) rfl (turn_of (k := 7) (c := "TooManyEdits") (x2 := x2) (eX_at rfl) rfl (by decide +kernel) (cmp_7 _ _ _ _ _) ne_7 (by decide +kernel) (by decide +kernel) (by decide +kernel))).trans ?_
  refine (forL_st (e1 := envR st a (.val (.int 8)) x3) rfl (turn_of (k := 8) (c := "NothingToUndo") (x2 := x2) (eX_at rfl) rfl (by decide +kernel) (cmp_8 _ _ _ _ _) ne_8 (by decide +kernel) (by decide +kernel) (by decide +kernel))).trans ?_
  refine (forL_st (e1 := envR st a (.val (.int 9)) x3) rfl (turn_of (k := 9) (c := "NothingToRedo") (x2 := x2) (eX_at rfl) rfl (by decide +kernel) (cmp_9 _ _ _ _ _) ne_9 (by decide +kernel) (by decide +kernel) (by decide +kernel))).trans ?_
  refine (forL_st (e1 := envR st a (.val (.int 10)) x3) rfl (turn_of (k := 10) (c := "BadEdits") (x2 := x2) (eX_at rfl) rfl (by decide +kernel) (cmp_10 _ _ _ _ _) ne_10 (by decide +kernel) (by decide +kernel) (by decide +kernel))).trans ?_
  refine (forL_st (e1 := envR st a (.val (.int 11)) x3) rfl (turn_of (k := 11) (c := "BadEdit") (x2 := x2) (eX_at rfl) rfl (by decide +kernel) (cmp_11 _ _ _ _ _) ne_11 (by decide +kernel) (by decide +kernel) (by decide +kernel))).trans ?_
  refine (forL_st (e1 := envR st a (.val (.int 12)) x3) rfl (turn_of (k := 12) (c := "Rejected") (x2 := x2) (eX_at rfl) rfl (by decide +kernel) (cmp_12 _ _ _ _ _) ne_12 (by decide +kernel) (by decide +kernel) (by decide +kernel))).trans ?_
  rfl
abbrev f16 : List Str := ["BadText", "BadScheme", "BadCuts", "BadWord", "BadLimit", "Overlong", "Busy", "TooManyEdits", "NothingToUndo", "NothingToRedo", "BadEdits", "BadEdit", "Rejected", "NoCut", "NoVersion", "UnitError"]
abbrev f18 : List Str := ["BadText", "BadScheme", "BadCuts", "BadWord", "BadLimit", "Overlong", "Busy", "TooManyEdits", "NothingToUndo", "NothingToRedo", "BadEdits", "BadEdit", "Rejected", "NoCut", "NoVersion", "UnitError", "NoCut", "NoVersion"]
abbrev f22 : List Str := ["BadText", "BadScheme", "BadCuts", "BadWord", "BadLimit", "Overlong", "Busy", "TooManyEdits", "NothingToUndo", "NothingToRedo", "BadEdits", "BadEdit", "Rejected", "NoCut", "NoVersion", "UnitError", "NoCut", "NoVersion", "UnitError", "UnitError", "NoCut", "NoVersion"]
noncomputable def t2B : MS := (ifS (tstM (opM (cntD false) (cst (.bl true)) (callM m__law_kinds (aCons (rd 3) aNil))))
 (retM (cst (.bl false)))
 nxM)
theorem t2_of {x2 : Sl} {s : S} {n : Nat} {c : Str} (hc : s.ob[n]? = some (.exc c)) (h16 : c ∈ e16) (h : cntD false (.bl true) (kd c) = some (.bl false)) : t2B (envR st a x2 (.val (.ref n))) s = some (.nx (envR st a x2 (.val (.ref n))), s) :=
  Lm.ifs_f (Lm.tst_of (op_of (x := .bl true) rfl (Lm.call_of (Lm.cons_of (f := rd 3) (s1 := s) (d := .ref n) rfl v_aNil) (kinds_ok hc h16)) (fun _ => rfl) (fun _ => rfl) h)) v_nxM
noncomputable def t3B : MS := (ifS (orM (notM (truM (isxM tb_LookupError (rd 3)))) (orM (truM (isxM tb_ValueError (rd 3))) (truM (isxM tb_UnitError (rd 3)))))
 (retM (cst (.bl false)))
 nxM)
theorem t3_of {x2 : Sl} {s : S} {n : Nat} {c : Str} (hc : s.ob[n]? = some (.exc c)) (h1 : tb_LookupError.lookup c = some true) (h2 : tb_UnitError.lookup c = some false) (h3 : tb_ValueError.lookup c = some false) : t3B (envR st a x2 (.val (.ref n))) s = some (.nx (envR st a x2 (.val (.ref n))), s) :=
  Lm.ifs_f (Lh.or_f (Lh.not_of (Lh.tru_of (isx_of (f := rd 3) rfl hc h1))) (Lh.or_f (Lh.tru_of (isx_of (f := rd 3) rfl hc h3)) (Lh.tru_of (isx_of (f := rd 3) rfl hc h2)))) v_nxM
theorem cn_NoCut : cntD false (.bl true) (kd "NoCut") = some (.bl false) := rfl
theorem cn_NoVersion : cntD false (.bl true) (kd "NoVersion") = some (.bl false) := rfl
theorem cn_UnitError : cntD false (.bl true) (kd "UnitError") = some (.bl false) := rfl
theorem right_ok (a : D) (st : S) : m__law_kinds_right [a] st = some (.bl true, eX st f22) := by
  refine Lm.run_of ?_
  unfold b__law_kinds_right
  have hst : st = eX st [] := (eX_nil st).symm
  have g1 : asgM (nameT 1) (frz (lstM (aCons (mkxM "BadText" (rd 0)) (aCons (mkxM "BadScheme" (rd 0)) (aCons (mkxM "BadCuts" (rd 0)) (aCons (mkxM "BadWord" (rd 0)) (aCons (mkxM "BadLimit" (rd 0)) (aCons (mkxM "Overlong" (rd 0)) (aCons (mk0M "Busy") (aCons (mk0M "TooManyEdits") aNil)))))))))) [.val a, .un, .un, .un, .un] st = some (.nx [.val a, .val (.lst [.ref (st.ob.length + 0), .ref (st.ob.length + 1), .ref (st.ob.length + 2), .ref (st.ob.length + 3), .ref (st.ob.length + 4), .ref (st.ob.length + 5), .ref (st.ob.length + 6), .ref (st.ob.length + 7)]), .un, .un, .un], eX st ["BadText", "BadScheme", "BadCuts", "BadWord", "BadLimit", "Overlong", "Busy", "TooManyEdits"]) := by
    rw [show asgM (nameT 1) (frz (lstM (aCons (mkxM "BadText" (rd 0)) (aCons (mkxM "BadScheme" (rd 0)) (aCons (mkxM "BadCuts" (rd 0)) (aCons (mkxM "BadWord" (rd 0)) (aCons (mkxM "BadLimit" (rd 0)) (aCons (mkxM "Overlong" (rd 0)) (aCons (mk0M "Busy") (aCons (mk0M "TooManyEdits") aNil)))))))))) [.val a, .un, .un, .un, .un] st = asgM (nameT 1) (frz (lstM (aCons (mkxM "BadText" (rd 0)) (aCons (mkxM "BadScheme" (rd 0)) (aCons (mkxM "BadCuts" (rd 0)) (aCons (mkxM "BadWord" (rd 0)) (aCons (mkxM "BadLimit" (rd 0)) (aCons (mkxM "Overlong" (rd 0)) (aCons (mk0M "Busy") (aCons (mk0M "TooManyEdits") aNil)))))))))) [.val a, .un, .un, .un, .un] (eX st []) from congrArg _ hst]
    exact Lm.asg_nx (d := .lst [.ref (st.ob.length + 0), .ref (st.ob.length + 1), .ref (st.ob.length + 2), .ref (st.ob.length + 3), .ref (st.ob.length + 4), .ref (st.ob.length + 5), .ref (st.ob.length + 6), .ref (st.ob.length + 7)]) (Lm.lst_of (ds := [.ref (st.ob.length + 0), .ref (st.ob.length + 1), .ref (st.ob.length + 2), .ref (st.ob.length + 3), .ref (st.ob.length + 4), .ref (st.ob.length + 5), .ref (st.ob.length + 6), .ref (st.ob.length + 7)]) (Lm.cons_of (mkx_of (st := st) (l := []) (f := rd 0) (d := a) rfl) (Lm.cons_of (mkx_of (st := st) (l := ["BadText"]) (f := rd 0) (d := a) rfl) (Lm.cons_of (mkx_of (st := st) (l := ["BadText", "BadScheme"]) (f := rd 0) (d := a) rfl) (Lm.cons_of (mkx_of (st := st) (l := ["BadText", "BadScheme", "BadCuts"]) (f := rd 0) (d := a) rfl) (Lm.cons_of (mkx_of (st := st) (l := ["BadText", "BadScheme", "BadCuts", "BadWord"]) (f := rd 0) (d := a) rfl) (Lm.cons_of (mkx_of (st := st) (l := ["BadText", "BadScheme", "BadCuts", "BadWord", "BadLimit"]) (f := rd 0) (d := a) rfl) (Lm.cons_of (mk0_of (st := st) (l := ["BadText", "BadScheme", "BadCuts", "BadWord", "BadLimit", "Overlong"])) (Lm.cons_of (mk0_of (st := st) (l := ["BadText", "BadScheme", "BadCuts", "BadWord", "BadLimit", "Overlong", "Busy"])) v_aNil)))))))) (by simp))
  refine (Lm.seq_nx g1).trans ?_
  refine (Lm.seq_nx (e := envR st a .un .un) (s1 := eX st e13) (Lm.asg_nx (d := rs13 st) (Lm.add_lst (f := rd 1) (xs := [.ref (st.ob.length + 0), .ref (st.ob.length + 1), .ref (st.ob.length + 2), .ref (st.ob.length + 3), .ref (st.ob.length + 4), .ref (st.ob.length + 5), .ref (st.ob.length + 6), .ref (st.ob.length + 7)]) (s1 := eX st ["BadText", "BadScheme", "BadCuts", "BadWord", "BadLimit", "Overlong", "Busy", "TooManyEdits"]) rfl (Lm.lst_of (ds := [.ref (st.ob.length + 8), .ref (st.ob.length + 9), .ref (st.ob.length + 10), .ref (st.ob.length + 11), .ref (st.ob.length + 12)]) (Lm.cons_of (mk0_of (st := st) (l := ["BadText", "BadScheme", "BadCuts", "BadWord", "BadLimit", "Overlong", "Busy", "TooManyEdits"])) (Lm.cons_of (mk0_of (st := st) (l := ["BadText", "BadScheme", "BadCuts", "BadWord", "BadLimit", "Overlong", "Busy", "TooManyEdits", "NothingToUndo"])) (Lm.cons_of (mk0_of (st := st) (l := ["BadText", "BadScheme", "BadCuts", "BadWord", "BadLimit", "Overlong", "Busy", "TooManyEdits", "NothingToUndo", "NothingToRedo"])) (Lm.cons_of (mkx_of (st := st) (l := ["BadText", "BadScheme", "BadCuts", "BadWord", "BadLimit", "Overlong", "Busy", "TooManyEdits", "NothingToUndo", "NothingToRedo", "BadEdits"]) (f := rd 0) (d := a) rfl) (Lm.cons_of (mkx_of (st := st) (l := ["BadText", "BadScheme", "BadCuts", "BadWord", "BadLimit", "Overlong", "Busy", "TooManyEdits", "NothingToUndo", "NothingToRedo", "BadEdits", "BadEdit"]) (f := rd 0) (d := a) rfl) v_aNil))))) (by simp)) (by simp)))).trans ?_
  have g2 : forM (r1M (aCons (cst (.int 13)) aNil)) (nameT 2) trB (envR st a .un .un) (eX st e13) = some (.nx (envR st a (.val (.int 12)) .un), eX st e13) := by
    rw [v_forM, Lh.r1_of (f := cst (.int 13)) (s1 := eX st e13) (k := 13) rfl (by decide), Option.bind_some]
    exact loop13 .un .un
  refine (Lm.seq_nx g2).trans ?_
  have g3 : forM (seqI (frz (lstM (aCons (mkxM "NoCut" (rd 0)) (aCons (mkxM "NoVersion" (rd 0)) (aCons (mk0M "UnitError") aNil)))))) (nameT 3) t2B (envR st a (.val (.int 12)) .un) (eX st e13) = some (.nx (envR st a (.val (.int 12)) (.val (.ref (st.ob.length + 15)))), eX st f16) := by
    refine Lm.for_of (s1 := eX st f16) (ds := [.ref (st.ob.length + 13), .ref (st.ob.length + 14), .ref (st.ob.length + 15)]) (Lm.lst_of (Lm.cons_of (mkx_of (st := st) (l := ["BadText", "BadScheme", "BadCuts", "BadWord", "BadLimit", "Overlong", "Busy", "TooManyEdits", "NothingToUndo", "NothingToRedo", "BadEdits", "BadEdit", "Rejected"]) (f := rd 0) (d := a) rfl) (Lm.cons_of (mkx_of (st := st) (l := ["BadText", "BadScheme", "BadCuts", "BadWord", "BadLimit", "Overlong", "Busy", "TooManyEdits", "NothingToUndo", "NothingToRedo", "BadEdits", "BadEdit", "Rejected", "NoCut"]) (f := rd 0) (d := a) rfl) (Lm.cons_of (mk0_of (st := st) (l := ["BadText", "BadScheme", "BadCuts", "BadWord", "BadLimit", "Overlong", "Busy", "TooManyEdits", "NothingToUndo", "NothingToRedo", "BadEdits", "BadEdit", "Rejected", "NoCut", "NoVersion"])) v_aNil))) (by simp)) ?_
    refine (forL_st (e1 := envR st a (.val (.int 12)) (.val (.ref (st.ob.length + 13)))) rfl (t2_of (eX_at (c := "NoCut") rfl) (by decide +kernel) cn_NoCut)).trans ?_
    refine (forL_st (e1 := envR st a (.val (.int 12)) (.val (.ref (st.ob.length + 14)))) rfl (t2_of (eX_at (c := "NoVersion") rfl) (by decide +kernel) cn_NoVersion)).trans ?_
    refine (forL_st (e1 := envR st a (.val (.int 12)) (.val (.ref (st.ob.length + 15)))) rfl (t2_of (eX_at (c := "UnitError") rfl) (by decide +kernel) cn_UnitError)).trans ?_
    rfl
  refine (Lm.seq_nx g3).trans ?_
  have g4 : forM (seqI (frz (lstM (aCons (mkxM "NoCut" (rd 0)) (aCons (mkxM "NoVersion" (rd 0)) aNil))))) (nameT 3) t3B (envR st a (.val (.int 12)) (.val (.ref (st.ob.length + 15)))) (eX st f16) = some (.nx (envR st a (.val (.int 12)) (.val (.ref (st.ob.length + 17)))), eX st f18) := by
    refine Lm.for_of (s1 := eX st f18) (ds := [.ref (st.ob.length + 16), .ref (st.ob.length + 17)]) (Lm.lst_of (Lm.cons_of (mkx_of (st := st) (l := ["BadText", "BadScheme", "BadCuts", "BadWord", "BadLimit", "Overlong", "Busy", "TooManyEdits", "NothingToUndo", "NothingToRedo", "BadEdits", "BadEdit", "Rejected", "NoCut", "NoVersion", "UnitError"]) (f := rd 0) (d := a) rfl) (Lm.cons_of (mkx_of (st := st) (l := ["BadText", "BadScheme", "BadCuts", "BadWord", "BadLimit", "Overlong", "Busy", "TooManyEdits", "NothingToUndo", "NothingToRedo", "BadEdits", "BadEdit", "Rejected", "NoCut", "NoVersion", "UnitError", "NoCut"]) (f := rd 0) (d := a) rfl) v_aNil)) (by simp)) ?_
    refine (forL_st (e1 := envR st a (.val (.int 12)) (.val (.ref (st.ob.length + 16)))) rfl (t3_of (eX_at (c := "NoCut") rfl) (by decide +kernel) (by decide +kernel) (by decide +kernel))).trans ?_
    refine (forL_st (e1 := envR st a (.val (.int 12)) (.val (.ref (st.ob.length + 17)))) rfl (t3_of (eX_at (c := "NoVersion") rfl) (by decide +kernel) (by decide +kernel) (by decide +kernel))).trans ?_
    rfl
  refine (Lm.seq_nx g4).trans ?_
  have g5 : (ifS (orM (truM (isxM tb_LookupError (mk0M "UnitError"))) (notM (truM (isxM tb_ValueError (mk0M "UnitError")))))
 (retM (cst (.bl false)))
 nxM) (envR st a (.val (.int 12)) (.val (.ref (st.ob.length + 17)))) (eX st f18) = some (.nx (envR st a (.val (.int 12)) (.val (.ref (st.ob.length + 17)))), eX st ["BadText", "BadScheme", "BadCuts", "BadWord", "BadLimit", "Overlong", "Busy", "TooManyEdits", "NothingToUndo", "NothingToRedo", "BadEdits", "BadEdit", "Rejected", "NoCut", "NoVersion", "UnitError", "NoCut", "NoVersion", "UnitError", "UnitError"]) :=
    Lm.ifs_f (Lh.or_f (Lh.tru_of (isx_of (mk0_of (st := st) (l := ["BadText", "BadScheme", "BadCuts", "BadWord", "BadLimit", "Overlong", "Busy", "TooManyEdits", "NothingToUndo", "NothingToRedo", "BadEdits", "BadEdit", "Rejected", "NoCut", "NoVersion", "UnitError", "NoCut", "NoVersion"])) (eX_at (c := "UnitError") rfl) (by decide +kernel))) (Lh.not_of (b := true) (Lh.tru_of (isx_of (mk0_of (st := st) (l := ["BadText", "BadScheme", "BadCuts", "BadWord", "BadLimit", "Overlong", "Busy", "TooManyEdits", "NothingToUndo", "NothingToRedo", "BadEdits", "BadEdit", "Rejected", "NoCut", "NoVersion", "UnitError", "NoCut", "NoVersion", "UnitError"])) (eX_at (c := "UnitError") rfl) (by decide +kernel))))) v_nxM
  refine (Lm.seq_nx g5).trans ?_
  refine Lm.ret_of ?_
  rw [v_andV, notV_of (b := false) (isx_of (mkx_of (st := st) (l := ["BadText", "BadScheme", "BadCuts", "BadWord", "BadLimit", "Overlong", "Busy", "TooManyEdits", "NothingToUndo", "NothingToRedo", "BadEdits", "BadEdit", "Rejected", "NoCut", "NoVersion", "UnitError", "NoCut", "NoVersion", "UnitError", "UnitError"]) (f := rd 0) (d := a) rfl) (eX_at (c := "NoCut") rfl) (by decide +kernel)), Option.bind_some]
  exact notV_of (b := false) (isx_of (mkx_of (st := st) (l := ["BadText", "BadScheme", "BadCuts", "BadWord", "BadLimit", "Overlong", "Busy", "TooManyEdits", "NothingToUndo", "NothingToRedo", "BadEdits", "BadEdit", "Rejected", "NoCut", "NoVersion", "UnitError", "NoCut", "NoVersion", "UnitError", "UnitError", "NoCut"]) (f := rd 0) (d := a) rfl) (eX_at (c := "NoVersion") rfl) (by decide +kernel))
end
end Lw

set_option Elab.async false
set_option linter.all false
set_option maxRecDepth 100000
set_option maxHeartbeats 4000000
namespace Lw
open PySem MD L2
open PySem.Builtin.Str (reprChar)
/-! ### texts of plain signs -/
def So (x : Str) : Prop := ∀ c ∈ x.cps.toList, c < 0x110000
theorem So.ok {x : Str} (h : So x) : PyData.strOk x = true := by
  unfold PyData.strOk
  rw [← Array.all_toList, List.all_eq_true]
  exact fun c hc => decide_eq_true (h c hc)
theorem So.of {s : String} : So (Str.ofString s) := by
  intro c hc
  rw [Str.ofString_eq_toList] at hc
  simp only [List.mem_map] at hc
  obtain ⟨z, _, rfl⟩ := hc
  have := z.valid
  have h : z.toNat.isValidChar := z.valid
  unfold Nat.isValidChar at h
  omega
theorem So.app {a b : Str} (ha : So a) (hb : So b) : So (a ++ b) := by
  intro c hc
  have e : (a ++ b).cps = a.cps ++ b.cps := rfl
  rw [e, Array.toList_append, List.mem_append] at hc
  rcases hc with h | h
  · exact ha c h
  · exact hb c h
theorem char_lt (z : Char) : z.toNat < 0x110000 := by
  have h : z.toNat.isValidChar := z.valid
  unfold Nat.isValidChar at h
  omega
theorem hex_ok (c w : Nat) : ∀ z ∈ List.replicate w 48 ++ (Nat.toDigits 16 c).map Char.toNat, z < 0x110000 := by
  intro z hz
  rcases List.mem_append.mp hz with h | h
  · rw [List.eq_of_mem_replicate h]; decide
  · obtain ⟨y, _, rfl⟩ := List.mem_map.mp h
    exact char_lt y
theorem rc_ok {q c : Nat} (hc : c < 0x110000) : ∀ z ∈ reprChar q c, z < 0x110000 := by
  intro z hz
  unfold reprChar at hz
  dsimp only at hz
  have two : ∀ {x y : Nat}, x < 0x110000 → y < 0x110000 → z ∈ [x, y] → z < 0x110000 := by
    intro x y hx hy h
    rcases List.mem_cons.mp h with h | h
    · rw [h]; exact hx
    · rw [List.mem_singleton.mp h]; exact hy
  have two2 : ∀ {x y w : Nat}, x < 0x110000 → y < 0x110000 → z ∈ [x, y] ++ (List.replicate w 48 ++ (Nat.toDigits 16 c).map Char.toNat) → z < 0x110000 := by
    intro x y w hx hy h
    rcases List.mem_append.mp h with h | h
    · exact two hx hy h
    · exact hex_ok c w z h
  split at hz
  · exact two (by decide) hc hz
  split at hz
  · exact two (by decide) (by decide) hz
  split at hz
  · exact two (by decide) (by decide) hz
  split at hz
  · exact two (by decide) (by decide) hz
  split at hz
  · rw [List.mem_singleton.mp hz]; exact hc
  split at hz
  · exact two2 (by decide) (by decide) hz
  split at hz
  · exact two2 (by decide) (by decide) hz
  · exact two2 (by decide) (by decide) hz
theorem fold_ok (q : Nat) : ∀ (l : List Nat) (acc : Array Nat), (∀ c ∈ l, c < 0x110000) → (∀ c ∈ acc.toList, c < 0x110000) → ∀ c ∈ (l.foldl (fun out c => out ++ (reprChar q c).toArray) acc).toList, c < 0x110000
  | [], acc, _, h => h
  | x :: r, acc, hl, h => by
    refine fold_ok q r _ (fun c hc => hl c (List.mem_cons_of_mem _ hc)) fun c hc => ?_
    rw [Array.toList_append] at hc
    rcases List.mem_append.mp hc with z | z
    · exact h c z
    · exact rc_ok (hl x List.mem_cons_self) c z
theorem So.repr {x : Str} (h : So x) : So (reprText x) := by
  have hq : reprQuote x < 0x110000 := by unfold reprQuote; split <;> decide
  intro c hc
  unfold reprText at hc
  rw [Array.toList_push, ← Array.foldl_toList] at hc
  rcases List.mem_append.mp hc with z | z
  · exact fold_ok _ _ _ h (fun c hc => by
      have : c ∈ [reprQuote x] := hc
      rw [List.mem_singleton.mp this]; exact hq) c z
  · rw [List.mem_singleton.mp z]; exact hq
theorem So.join {sep : Str} (hs : So sep) : ∀ {ts : List Str}, (∀ t ∈ ts, So t) → So (Str.join sep ts)
  | [], _ => fun c hc => by
    have : c ∈ ([] : List Nat) := hc
    cases this
  | [x], h => h x List.mem_cons_self
  | x :: y :: r, h => So.app (So.app (h x List.mem_cons_self) hs) (So.join hs fun t ht => h t (List.mem_cons_of_mem _ ht))
theorem So.tup {ts : List Str} (h : ∀ t ∈ ts, So t) : So (tupleText ts) := by
  unfold tupleText
  exact So.app (So.app So.of (So.join So.of h)) So.of
theorem So.txt : ∀ {ts : List Str} {k : Nat} {acc : Str}, So acc → (∀ t ∈ ts, So t) → So (textFrom k acc ts)
  | [], _, _, h, _ => h
  | t :: ts, k, acc, h, ht => So.txt (k := k + 1) (acc := acc ++ (if k > 0 then ", " else "" : String) ++ t) (ts := ts) (So.app (So.app h So.of) (ht t List.mem_cons_self)) fun x hx => ht x (List.mem_cons_of_mem _ hx)
theorem So.lst {ts : List Str} (h : ∀ t ∈ ts, So t) : So (listText ts) := So.app (So.txt So.of h) So.of
theorem So.one {a : Str} (h : So a) : ∀ t ∈ [a], So t := fun t ht => by rw [List.mem_singleton.mp ht]; exact h
theorem So.cons {a : Str} {l : List Str} (h : So a) (hl : ∀ t ∈ l, So t) : ∀ t ∈ a :: l, So t := fun t ht => by
  rcases List.mem_cons.mp ht with z | z
  · rw [z]; exact h
  · exact hl t z
/-! ### what an error is made with -/
/-- the law's values -/
def vls (m : Int) : List D := [.non, .bl true, .bl false, .int 0, .int 1, .int m, .str (toString m : String), .str "", .tup [], .tup [.int m], .lst [.int m], .tup [.non, .str "places"], .tup [.tup [.int 1], .bl true], .dic [] [],
  .dic [.inr "a"] [.int m], .tup [.str "pay", .str "n"], .tup [.tup [.int 0, .int 1], .tup [.int 1, .int m]]]
/-- data with a text -/
def Shw (d : D) : Prop := ∃ t, reprX [d] = some (.str t) ∧ So t
theorem shw_of {d : D} {n b : Nat} (h : Gd d n b) (hn : n ≤ 60) (hb : b ≤ 15000) (hs : So d.qy.shown) : Shw d := ⟨d.qy.shown, by unfold reprX; rw [reprQ_gd h hn hb]; rfl, hs⟩
theorem gI {m : Int} (h : m.natAbs < 10 ^ 10) : Gd (.int m) 0 0 := Gd.int (Nat.lt_of_lt_of_le h (by decide))
theorem strI_len {m : Int} (h : m.natAbs < 10 ^ 10) : (Str.ofString (toString m)).cps.size ≤ 11 := by
  have e := int_text_length_le10 (k := 10) (by decide) h
  show (Str.ofString (toString m)).length ≤ 11
  rw [PyProof.Rows.ofString_length]; exact e
theorem gS {x : Str} {b : Nat} (h : So x) (hb : x.cps.size ≤ b) : Gd (.str x) 0 b := Gd.str (by
  rw [List.all_eq_true]
  exact fun c hc => decide_eq_true (Nat.lt_of_lt_of_le (h c hc) (by decide))) hb
theorem vls_shw {m : Int} (h : m.natAbs < 10 ^ 10) : ∀ d ∈ vls m, Shw d := by
  have i (k : Int) : So (toString k : String) := So.of
  have hz : ∀ {k : Int}, k.natAbs < 10 ^ 10 → Gd (.int k) 0 0 := gI
  have h1 : Gd (.int 1) 0 0 := gI (by decide)
  have h0 : Gd (.int 0) 0 0 := gI (by decide)
  have s1 : Gd (.str "places") 0 6 := gS So.of (by decide +kernel)
  have s2 : Gd (.str "pay") 0 3 := gS So.of (by decide +kernel)
  have s3 : Gd (.str "n") 0 1 := gS So.of (by decide +kernel)
  have sm : Gd (.str (toString m : String)) 0 11 := gS So.of (strI_len h)
  intro d hd
  unfold vls at hd
  simp only [List.mem_cons, List.not_mem_nil, or_false] at hd
  rcases hd with rfl | rfl | rfl | rfl | rfl | rfl | rfl | rfl | rfl | rfl | rfl | rfl | rfl | rfl | rfl | rfl | rfl
  · exact shw_of Gd.non (by decide) (by decide) So.of
  · exact shw_of (Gd.bl true) (by decide) (by decide) So.of
  · exact shw_of (Gd.bl false) (by decide) (by decide) So.of
  · exact shw_of h0 (by decide) (by decide) So.of
  · exact shw_of h1 (by decide) (by decide) So.of
  · exact shw_of (gI h) (by decide) (by decide) So.of
  · exact shw_of sm (by decide) (by decide) (So.repr So.of)
  · exact shw_of (gS (b := 0) So.of (by decide +kernel)) (by decide) (by decide) (So.repr So.of)
  · exact shw_of (Gd.tup (n := 0) (b := 0) Gds.nil) (by decide) (by decide) (So.tup fun t ht => nomatch ht)
  · exact shw_of (Gd.tup (Gds.cons (gI h) (Gds.nil (b := 0)))) (by decide) (by decide) (So.tup (So.one So.of))
  · exact shw_of (Gd.lst (Gds.cons (gI h) (Gds.nil (b := 0)))) (by decide) (by decide) (So.lst (So.one So.of))
  · exact shw_of (Gd.tup (Gds.cons Gd.non (Gds.cons s1 (Gds.nil (b := 0))))) (by decide) (by decide) (So.tup (So.cons So.of (So.one (So.repr So.of))))
  · exact shw_of (Gd.tup (Gds.cons (Gd.tup (Gds.cons h1 (Gds.nil (b := 0)))) (Gds.cons ((Gd.bl true).mono (Nat.zero_le 1) (Nat.le_refl 0)) (Gds.nil (b := 0))))) (by decide) (by decide) (So.tup (So.cons (So.tup (So.one So.of)) (So.one So.of)))
  · exact shw_of Gd.dic (by decide) (by decide) (So.app (So.app So.of (So.join So.of fun t ht => nomatch ht)) So.of)
  · refine ⟨d1Text "a" m, ?_, ?_⟩
    · have hq : reprQ [.dic [.inr "a"] [.int m]] = none := rfl
      unfold reprX
      rw [hq]
      show repr1 [.dic [.inr "a"] [.int m]] = _
      have l1 : (reprText "a").length ≤ 3 := by decide +kernel
      have l2 : (d1Text "a" m).length ≤ 100 := by
        have e : (d1Text "a" m).length = (("{" : Str) ++ (reprText "a" ++ ": ") ++ (Str.ofString (toString m)) ++ "}").length := by
          unfold d1Text dictText
          show (("{" : Str) ++ (reprText "a" ++ ": " ++ Str.ofString (toString m)) ++ "}").length = _
          simp only [strLen_append]
          omega
        rw [e]
        have := strI_len h
        have e2 : (Str.ofString (toString m)).length = (Str.ofString (toString m)).cps.size := rfl
        simp only [strLen_append]
        have : (("{" : Str)).length = 1 := by decide +kernel
        have : (("}" : Str)).length = 1 := by decide +kernel
        have : ((": " : Str)).length = 2 := by decide +kernel
        omega
      have hl : m.natAbs.log2 < 1920 := by
        by_cases h0 : m.natAbs = 0
        · rw [h0]; decide
        · have := (Nat.log2_lt h0).mpr (Nat.lt_of_lt_of_le h (show 10 ^ 10 ≤ 2 ^ 100 by decide))
          omega
      show (if m.natAbs.log2 < 1920 ∧ (reprText "a").length ≤ sizeLine ∧ (d1Text "a" m).length ≤ sizeLine then some (D.str (d1Text "a" m)) else none) = _
      rw [if_pos ⟨hl, Nat.le_trans l1 (by decide), Nat.le_trans l2 (by decide)⟩]
    · unfold d1Text dictText
      exact So.app (So.app So.of (So.join So.of (So.one (So.app (So.app (So.repr So.of) So.of) So.of)))) So.of
  · exact shw_of (Gd.tup (Gds.cons s2 (Gds.cons s3 (Gds.nil (b := 0))))) (by decide) (by decide) (So.tup (So.cons (So.repr So.of) (So.one (So.repr So.of))))
  · exact shw_of (Gd.tup (Gds.cons (Gd.tup (Gds.cons h0 (Gds.cons h1 (Gds.nil (b := 0))))) (Gds.cons (Gd.tup (Gds.cons h1 (Gds.cons (gI h) (Gds.nil (b := 0))))) (Gds.nil (b := 0))))) (by decide) (by decide)
      (So.tup (So.cons (So.tup (So.cons So.of (So.one So.of))) (So.one (So.tup (So.cons So.of (So.one So.of))))))
end Lw

set_option Elab.async false
set_option linter.all false
set_option maxRecDepth 100000
set_option maxHeartbeats 4000000
namespace Lw
open PySem MD L2 Lc
/-! ### draws -/
theorem lenL {f : ME} {env : Sg} {st s1 : S} {ds : List D} (h : f env st = some (.lst ds, s1)) : cbM lenA (aCons f aNil) env st = some (.int ((ds.length : Nat) : Int), s1) := by
  show ((aCons f aNil env st).bind fun p => (lenA (p.1.map (dr p.2))).map fun z => (z, p.2)) = _
  rw [Lm.cons_of h v_aNil]
  rfl
theorem draw_ok {m : Int} (h0 : 0 < m) (h1 : m < 1073741824) {st : S} (hs : 0 ≤ st.n) (hn : st.n + 1 ≤ nMax) : ∃ (r : Int) (s1 : S), m__law_draw [.deck, .int m] st = some (.int r, s1) ∧ 0 ≤ r ∧ r < m ∧ st.n ≤ s1.n ∧ s1.n ≤ st.n + 1 := by
  obtain ⟨d, s1, e, ⟨r, rfl, h2, h3⟩, l1, l2⟩ := draw_yes (c := dc) h0 h1 st hs (by simpa using hn)
  exact ⟨r, s1, e, h2, h3, l1, by simpa using l2⟩
theorem one_lst {ds : List D} {st : S} (h0 : ds ≠ []) (h1 : ds.length ≤ 1000) (hs : 0 ≤ st.n) (hn : st.n + 1 ≤ nMax) : ∃ d s1, m__law_one [.deck, .lst ds] st = some (d, s1) ∧ d ∈ ds ∧ st.n ≤ s1.n ∧ s1.n ≤ st.n + 1 := by
  have hp := List.length_pos_iff.mpr h0
  have e0 : cbM lenA (aCons (rd 1) aNil) [.val .deck, .val (.lst ds)] st = some (.int ((ds.length : Nat) : Int), st) := lenL (f := rd 1) (s1 := st) rfl
  obtain ⟨r, s1, e, hr0, hr, l1, l2⟩ := draw_ok (m := ((ds.length : Nat) : Int)) (by omega) (by omega) hs hn
  obtain ⟨k, rfl⟩ : ∃ k : Nat, r = (k : Int) := ⟨r.toNat, by omega⟩
  have hrn : k < ds.length := by omega
  refine ⟨ds[k], s1, ?_, List.getElem_mem hrn, l1, l2⟩
  have hc := Lm.call_of (Lm.cons_of (f := rd 0) (env := [.val .deck, .val (.lst ds)]) (st := st) (s1 := st) rfl (Lm.cons_of e0 v_aNil)) e
  have hb : b__law_one = retM (opM subD (rd 1) (callM m__law_draw (aCons (rd 0) (aCons (cbM lenA (aCons (rd 1) aNil)) aNil)))) := rfl
  refine Lm.run_of ?_
  show b__law_one [.val .deck, .val (.lst ds)] st = _
  rw [hb]
  exact Lm.ret_of (Lh.sub_of (f := rd 1) (s1 := st) (x := .lst ds) (y := .int (k : Int)) rfl hc (fun s => dr_lst s _) (fun s => rfl) (by rw [v_subL, v_ixL, atI_of (j := k) (by rw [List.getElem?_eq_getElem hrn])]))
theorem value_ok {st : S} (hs : 0 ≤ st.n) (hn : st.n + 2 ≤ nMax) : ∃ (d : D) (m : Int) (s2 : S), m__law_value [.deck] st = some (d, s2) ∧ d ∈ vls m ∧ m.natAbs < 10 ^ 10 ∧ st.n ≤ s2.n ∧ s2.n ≤ st.n + 2 := by
  obtain ⟨r, s1, e1, h0, h1, l1, l2⟩ := draw_ok (m := 1000000000) (by decide) (by decide) hs (by omega)
  obtain ⟨m, hm⟩ : ∃ m, m = r - 500000000 := ⟨_, rfl⟩
  have hma : m.natAbs < 10 ^ 10 := by rw [hm]; omega
  have hl : m.natAbs.log2 < 1920 := by
    by_cases h0 : m.natAbs = 0
    · rw [h0]; decide
    · have := (Nat.log2_lt h0).mpr (Nat.lt_of_lt_of_le hma (show 10 ^ 10 ≤ 2 ^ 100 by decide))
      omega
  obtain ⟨d, s2, e2, hd, l3, l4⟩ := one_lst (ds := vls m) (st := s1) (fun z => nomatch z) (by show 17 ≤ 1000; decide) (by omega) (by omega)
  refine ⟨d, m, s2, ?_, hd, hma, by omega, by omega⟩
  refine Lm.run_of ?_
  unfold b__law_value
  have p9 : opM powM (cst (.int 10)) (cst (.int 9)) [.val .deck, .un, .un] st = some (.int 1000000000, st) := rfl
  have p8 : opM mulA (cst (.int 5)) (opM powM (cst (.int 10)) (cst (.int 8))) [.val .deck, .un, .un] s1 = some (.int 500000000, s1) := rfl
  have c1 := Lm.call_of (Lm.cons_of (f := rd 0) (d := .deck) (env := [.val .deck, .un, .un]) (st := st) (s1 := st) rfl (Lm.cons_of p9 v_aNil)) e1
  refine (Lm.seq_nx (e := [.val .deck, .val (.int m), .un]) (s1 := s1) (Lm.asg_nx (d := .int m) (op_of c1 p8 (fun _ => rfl) (fun _ => rfl) (by rw [hm]; rfl)))).trans ?_
  have cs : cbM strIntM (aCons (rd 1) aNil) [.val .deck, .val (.int m), .un] s1 = some (.str (toString m : String), s1) := by
    show ((aCons (rd 1) aNil [.val .deck, .val (.int m), .un] s1).bind fun p => (strIntM (p.1.map (dr p.2))).map fun z => (z, p.2)) = _
    rw [Lm.cons_of (f := rd 1) (d := .int m) (s1 := s1) rfl v_aNil]
    show (if m.natAbs.log2 < 1920 then some (D.str (toString m : String)) else none).map _ = _
    rw [if_pos hl]; rfl
  refine (Lm.seq_nx (e := [.val .deck, .val (.int m), .val (.lst ((vls m).take 14))]) (s1 := s1) (Lm.asg_nx (d := .lst ((vls m).take 14)) (Lm.lst_of (ds := (vls m).take 14)
    (Lm.cons_of (f := cst .non) (s1 := s1) rfl (Lm.cons_of (f := cst (.bl true)) (s1 := s1) rfl (Lm.cons_of (f := cst (.bl false)) (s1 := s1) rfl (Lm.cons_of (f := cst (.int 0)) (s1 := s1) rfl (Lm.cons_of (f := cst (.int 1)) (s1 := s1) rfl (Lm.cons_of (f := rd 1) (s1 := s1) rfl (Lm.cons_of cs
      (Lm.cons_of (f := cst (.str "")) (s1 := s1) rfl (Lm.cons_of (f := tupM aNil) (d := .tup []) (s1 := s1) rfl (Lm.cons_of (f := tupM (aCons (rd 1) aNil)) (d := .tup [.int m]) (s1 := s1) rfl (Lm.cons_of (f := frz (lstM (aCons (rd 1) aNil))) (d := .lst [.int m]) (s1 := s1) rfl
        (Lm.cons_of (f := tupM (aCons (cst .non) (aCons (cst (.str "places")) aNil))) (d := .tup [.non, .str "places"]) (s1 := s1) rfl (Lm.cons_of (f := tupM (aCons (tupM (aCons (cst (.int 1)) aNil)) (aCons (cst (.bl true)) aNil))) (d := .tup [.tup [.int 1], .bl true]) (s1 := s1) rfl
          (Lm.cons_of (f := frzK newK) (d := .dic [] []) (s1 := s1) rfl v_aNil)))))))))))))) (by show 14 ≤ 1000000; decide)))).trans ?_
  have ad : opM addM (rd 2) (frz (lstM (aCons (frzK (dispK (pCons (cst (.str "a")) (rd 1) pNil))) (aCons (tupM (aCons (cst (.str "pay")) (aCons (cst (.str "n")) aNil))) (aCons (tupM (aCons (tupM (aCons (cst (.int 0)) (aCons (cst (.int 1)) aNil))) (aCons (tupM (aCons (cst (.int 1)) (aCons (rd 1) aNil))) aNil))) aNil)))))
      [.val .deck, .val (.int m), .val (.lst ((vls m).take 14))] s1 = some (.lst (vls m), s1) :=
    Lm.add_lst (f := rd 2) (xs := (vls m).take 14) (ys := (vls m).drop 14) (s1 := s1) rfl (Lm.lst_of (ds := (vls m).drop 14) (Lm.cons_of (f := frzK (dispK (pCons (cst (.str "a")) (rd 1) pNil))) (d := .dic [.inr "a"] [.int m]) (s1 := s1) rfl
      (Lm.cons_of (f := tupM (aCons (cst (.str "pay")) (aCons (cst (.str "n")) aNil))) (d := .tup [.str "pay", .str "n"]) (s1 := s1) rfl
        (Lm.cons_of (f := tupM (aCons (tupM (aCons (cst (.int 0)) (aCons (cst (.int 1)) aNil))) (aCons (tupM (aCons (cst (.int 1)) (aCons (rd 1) aNil))) aNil))) (d := .tup [.tup [.int 0, .int 1], .tup [.int 1, .int m]]) (s1 := s1) rfl v_aNil))) (by show 3 ≤ 1000000; decide)) (by show 17 ≤ 1000000; decide)
  exact Lm.ret_of (Lm.call_of (Lm.cons_of (f := rd 0) (d := .deck) (s1 := s1) rfl (Lm.cons_of ad v_aNil)) e2)
end Lw

set_option Elab.async false
set_option linter.all false
set_option maxRecDepth 100000
set_option maxHeartbeats 4000000
namespace Lw
open PySem MD L2 Lc
theorem cb_of {g : List D → Option D} {f : ME} {env : Sg} {st s1 : S} {d z : D} (h : f env st = some (d, s1)) (hd : ∀ s, dr s d = d) (hz : g [d] = some z) : cbM g (aCons f aNil) env st = some (z, s1) := by
  show ((aCons f aNil env st).bind fun p => (g (p.1.map (dr p.2))).map fun z => (z, p.2)) = _
  rw [Lm.cons_of h v_aNil]
  show (g [dr s1 d]).map _ = _
  rw [hd, hz]; rfl
theorem vls_dr {m : Int} : ∀ d ∈ vls m, ∀ s, dr s d = d := by
  intro d hd s
  unfold vls at hd
  simp only [List.mem_cons, List.not_mem_nil, or_false] at hd
  rcases hd with rfl | rfl | rfl | rfl | rfl | rfl | rfl | rfl | rfl | rfl | rfl | rfl | rfl | rfl | rfl | rfl | rfl <;> rfl
/-- [f(x) for x in g] over data, where f tells the same each time -/
theorem comp_of {f : ME} {g : ME} {i : Nat} {env : Sg} {st s1 : S} {ds : List D} {F : D → D} (h : g env st = some (.lst ds, s1)) (hl : ds.length ≤ 1000) (hf : ∀ d ∈ ds, f ((wipeE env [i]).set i (.val d)) s1 = some (F d, s1)) :
    frz (compM (seqI g) (nameT i) yesM f [i]) env st = some (.lst (ds.map F), s1) := by
  show (compM (seqI g) (nameT i) yesM f [i] env st).map _ = _
  rw [v_compM, v_seqI, h, Option.bind_some]
  show ((((some ds).map fun ds => (ds, s1)) : Option (List D × S)).bind fun p => grd p.1.length (compL (nameT i) yesM f (wipeE env [i]) p.1 p.2)).map _ = _
  rw [Option.map_some, Option.bind_some]
  show (grd ds.length (compL (nameT i) yesM f (wipeE env [i]) ds s1)).map _ = _
  rw [compL_map (t := nameT i) (f := f) (env := wipeE env [i]) (st := s1) F ds fun d hd => ⟨_, rfl, hf d hd⟩]
  unfold grd
  rw [cif_of (show ds.length ≤ sizeLine from Nat.le_trans hl (by decide))]; rfl
theorem ne_strs {t : Str} (h : So t) : neM (.lst (List.replicate 10 (.str t))) (.lst (List.replicate 10 (.str t))) = some (.bl false) := by
  have k : PyData.strOk t = true := h.ok
  have hl : PyData.canLay0 (D.lst (List.replicate 10 (D.str t))).py = true := by
    simp only [List.replicate, D.py, pyAll, PyData.canLay0, PyData.canLayAll0, k, Bool.and_self]
  have hn : Nice (.lst (List.replicate 10 (.str t))) := ⟨rfl, hl, by simp only [List.replicate, D.py, pyAll, PyData.depth, PyData.depthAll]; decide⟩
  have he : PyData.eqv (D.lst (List.replicate 10 (D.str t))).py (D.lst (List.replicate 10 (D.str t))).py = true := by
    simp only [List.replicate, D.py, pyAll, PyData.eqv, PyData.eqvAll, beq_self_eq_true, Bool.and_self]
  rw [Lh.neN_of hn hn rfl, he]; rfl
abbrev envT (x2 x3 x4 x5 x6 : Sl) : Sg := [.un, .val .deck, x2, x3, x4, x5, x6]
noncomputable def tuB : MS := (seqM (asgM (nameT 3) (callM m__law_value (aCons (rd 1) aNil)))
 (ifS (orM (notM (truM (callM m__law_kinds_right (aCons (rd 3) aNil)))) (tstM (opM neM (frz (compM (seqI (callM m__law_fields (aCons (rd 3) aNil))) (nameT 6) yesM (cbM reprX (aCons (rd 6) aNil)) [6])) (frz (opF lstMul (frz (lstM (aCons (cbM reprX (aCons (rd 3) aNil)) aNil))) (cst (.int 10)))))))
 (retM (cst (.bl false)))
 nxM))
theorem tu_ok {x2 x3 x4 x5 x6 : Sl} {st : S} (hs : 0 ≤ st.n) (hn : st.n + 2 ≤ nMax) : ∃ (y3 : Sl) (s2 : S), tuB (envT x2 x3 x4 x5 x6) st = some (.nx (envT x2 y3 x4 x5 x6), s2) ∧ st.n ≤ s2.n ∧ s2.n ≤ st.n + 2 := by
  obtain ⟨d, m, s1, e1, hd, hm, l1, l2⟩ := value_ok hs hn
  obtain ⟨t, ht, hso⟩ := vls_shw hm d hd
  have hdr := vls_dr d hd
  refine ⟨.val d, eX s1 f22, ?_, l1, l2⟩
  unfold tuB
  refine (Lm.seq_nx (e := envT x2 (.val d) x4 x5 x6) (s1 := s1) (Lm.asg_nx (d := d) (Lm.call_of (Lm.cons_of (f := rd 1) (d := .deck) (s1 := st) rfl v_aNil) e1))).trans ?_
  have c1 : callM m__law_kinds_right (aCons (rd 3) aNil) (envT x2 (.val d) x4 x5 x6) s1 = some (.bl true, eX s1 f22) := Lm.call_of (Lm.cons_of (f := rd 3) (d := d) (s1 := s1) rfl v_aNil) (right_ok d s1)
  have c2 : callM m__law_fields (aCons (rd 3) aNil) (envT x2 (.val d) x4 x5 x6) (eX s1 f22) = some (.lst (List.replicate 10 d), eX s1 f22) := Lm.call_of (Lm.cons_of (f := rd 3) (d := d) (s1 := eX s1 f22) rfl v_aNil) (fields_ok d _)
  have c3 := comp_of (f := cbM reprX (aCons (rd 6) aNil)) (i := 6) (F := fun _ => .str t) c2 (by rw [List.length_replicate]; decide) fun x hx => by
    rw [List.eq_of_mem_replicate hx]
    exact cb_of (f := rd 6) (d := d) rfl hdr ht
  rw [List.map_replicate] at c3
  have c4 : frz (opF lstMul (frz (lstM (aCons (cbM reprX (aCons (rd 3) aNil)) aNil))) (cst (.int 10))) (envT x2 (.val d) x4 x5 x6) (eX s1 f22) = some (.lst (List.replicate 10 (.str t)), eX s1 f22) := by
    have k : frz (lstM (aCons (cbM reprX (aCons (rd 3) aNil)) aNil)) (envT x2 (.val d) x4 x5 x6) (eX s1 f22) = some (.lst [.str t], eX s1 f22) := Lm.lst_of (Lm.cons_of (cb_of (f := rd 3) (d := d) (s1 := eX s1 f22) rfl hdr ht) v_aNil) (by simp)
    show ((frz (lstM (aCons (cbM reprX (aCons (rd 3) aNil)) aNil)) (envT x2 (.val d) x4 x5 x6) (eX s1 f22)).bind fun p => (cst (.int 10) (envT x2 (.val d) x4 x5 x6) p.2).bind fun q => (lstMul (dr q.2 p.1) (dr q.2 q.1)).map fun z => (z, q.2)).map _ = _
    rw [k]; rfl
  exact Lm.ifs_f (Lh.or_f (Lh.not_of (Lh.tru_of c1)) (Lm.tst_of (op_of c3 c4 (fun _ => rfl) (fun _ => rfl) (ne_strs hso)))) v_nxM
theorem loop_ok : ∀ (ds : List D) {x2 x3 x4 x5 x6 : Sl} {st : S}, 0 ≤ st.n → st.n + ((ds.length * 2 : Nat) : Int) ≤ nMax → ∃ (y2 y3 : Sl) (s2 : S), forL (nameT 2) tuB ds (envT x2 x3 x4 x5 x6) st = some (.nx (envT y2 y3 x4 x5 x6), s2)
  | [], x2, x3, _, _, _, st, _, _ => ⟨x2, x3, st, rfl⟩
  | d :: ds, x2, x3, x4, x5, x6, st, h0, hn => by
    rw [List.length_cons] at hn
    obtain ⟨y3, s1, e1, l1, l2⟩ := tu_ok (x2 := .val d) (x3 := x3) (x4 := x4) (x5 := x5) (x6 := x6) h0 (by omega)
    obtain ⟨z2, z3, s2, e2⟩ := loop_ok ds (x2 := .val d) (x3 := y3) (x4 := x4) (x5 := x5) (x6 := x6) (st := s1) (by omega) (by omega)
    exact ⟨z2, z3, s2, (forL_st (e1 := envT (.val d) x3 x4 x5 x6) rfl e1).trans e2⟩
abbrev ndL : List D := [.int 4, .int 8, .int 9, .int 200, .int 20, .int 3, .int 400, .int 60, .int 20, .int 40, .int 4, .int 60, .int 60]
theorem nd_shw : ∃ t, reprX [.lst ndL] = some (.str t) := by
  have g : ∀ d ∈ ndL, Gd d 0 0 := by
    intro d hd
    simp only [List.mem_cons, List.not_mem_nil, or_false] at hd
    rcases hd with rfl | rfl | rfl | rfl | rfl | rfl | rfl | rfl | rfl | rfl | rfl | rfl | rfl <;> exact gI (by decide)
  exact ⟨_, by unfold reprX; rw [reprQ_gd (Gd.lst (Gds.all g)) (by decide) (by decide)]; rfl⟩
theorem law_holds : ∀ ns : List Int, ns.length ≤ 63 → ∃ s1, b_law (env0 7) ⟨ns.map absI, 0, []⟩ = some (.rt (.bl true), s1) := by
  intro ns _
  obtain ⟨st, hst⟩ : ∃ st : S, st = ⟨ns.map absI, 0, []⟩ := ⟨_, rfl⟩
  have hn : st.n = 0 := by rw [hst]
  rw [← hst]
  obtain ⟨y2, y3, s1, e1⟩ := loop_ok (rngD 0 4) (x2 := .un) (x3 := .un) (x4 := .un) (x5 := .un) (x6 := .un) (st := st) (by omega) (by rw [rngD_len, hn]; unfold nMax; decide)
  have er : r1M (aCons (cst (.int 4)) aNil) (envT .un .un .un .un .un) st = some (rngD 0 4, st) := by
    rw [v_r1M, Lm.cons_of (f := cst (.int 4)) (s1 := st) rfl v_aNil, Option.bind_some]
    show ((rng1 [.int 4]).map _) = _
    rw [rng1_of (by decide) (by decide)]; rfl
  obtain ⟨n, hN⟩ : ∃ n, n = s1.ob.length := ⟨_, rfl⟩
  obtain ⟨t, ht⟩ := nd_shw
  refine ⟨(Xs s1 [.lst [.int 7]]).put n (.lst [.int 7, .int 8]), ?_⟩
  have hb : b_law =
(seqM (forM (r1M (aCons (cst (.int 4)) aNil)) (nameT 2)
 tuB)
 (seqM (asgM (nameT 4) (stoL (lstM (aCons (cst (.int 7)) aNil))))
 (seqM (asgM (nameT 5) (callM m__law_fields (aCons (rd 4) aNil)))
 (seqM (sappM (rd 4) (cst (.int 8)))
 (seqM (ifS (tstM (opM neM (frz (compM (seqI (rd 5)) (nameT 6) (tstM (opM neM (rd 6) (frz (lstM (aCons (cst (.int 7)) (aCons (cst (.int 8)) aNil)))))) (rd 6) [6])) (frz (lstM aNil))))
 (retM (cst (.bl false)))
 nxM)
 (seqM (asgM (nameT 5) (frz (lstM (aCons (cst (.int 4)) (aCons (cst (.int 8)) (aCons (cst (.int 9)) (aCons (cst (.int 200)) (aCons (cst (.int 20)) (aCons (cst (.int 3)) (aCons (cst (.int 400)) (aCons (cst (.int 60)) (aCons (cst (.int 20)) aNil))))))))))))
 (seqM (asgM (nameT 5) (opM addM (rd 5) (frz (lstM (aCons (cst (.int 40)) (aCons (cst (.int 4)) aNil))))))
 (retM (opM eqM (cbM reprX (aCons (opM addM (rd 5) (frz (lstM (aCons (cst (.int 60)) (aCons (cst (.int 60)) aNil))))) aNil)) (cbM reprX (aCons (frz (lstM (aCons (cst (.int 4)) (aCons (cst (.int 8)) (aCons (cst (.int 9)) (aCons (cst (.int 200)) (aCons (cst (.int 20)) (aCons (cst (.int 3)) (aCons (cst (.int 400)) (aCons (cst (.int 60)) (aCons (cst (.int 20)) (aCons (cst (.int 40)) (aCons (cst (.int 4)) (aCons (cst (.int 60)) (aCons (cst (.int 60)) aNil))))))))))))))) aNil))))))))))) := rfl
  rw [hb]
  show seqM _ _ (envT .un .un .un .un .un) st = _
  rw [Lm.seq_nx (forM_of' er e1)]
  have k1 : asgM (nameT 4) (stoL (lstM (aCons (cst (.int 7)) aNil))) (envT y2 y3 .un .un .un) s1 = some (.nx (envT y2 y3 (.val (.ref n)) .un .un), Xs s1 [.lst [.int 7]]) := by
    refine Lm.asg_nx (d := .ref n) ?_
    show (lstM (aCons (cst (.int 7)) aNil) (envT y2 y3 .un .un .un) s1).map _ = _
    rw [show lstM (aCons (cst (.int 7)) aNil) (envT y2 y3 .un .un .un) s1 = some ([.int 7], s1) from rfl, hN]
    rfl
  rw [Lm.seq_nx k1]
  have k2 := Lm.call_of (Lm.cons_of (f := rd 4) (d := .ref n) (env := envT y2 y3 (.val (.ref n)) .un .un) (st := Xs s1 [.lst [.int 7]]) (s1 := Xs s1 [.lst [.int 7]]) rfl v_aNil) (fields_ok (.ref n) (Xs s1 [.lst [.int 7]]))
  rw [Lm.seq_nx (e := envT y2 y3 (.val (.ref n)) (.val (.lst (List.replicate 10 (.ref n)))) .un) (Lm.asg_nx k2)]
  have hob : (Xs s1 [.lst [.int 7]]).ob[n]? = some (.lst [.int 7]) := by rw [hN]; exact Xs_at s1 [.lst [.int 7]] 0
  obtain ⟨s2, hs2⟩ : ∃ s2, s2 = (Xs s1 [.lst [.int 7]]).put n (.lst [.int 7, .int 8]) := ⟨_, rfl⟩
  have hob2 : s2.ob[n]? = some (.lst [.int 7, .int 8]) := by
    rw [hs2]
    have hlt : n < (Xs s1 [.lst [.int 7]]).ob.length := by rw [Xs_len, hN]; exact Nat.lt_succ_self _
    show ((Xs s1 [.lst [.int 7]]).ob.set n (.lst [.int 7, .int 8]))[n]? = _
    rw [List.getElem?_set_self hlt]
  have k3 : sappM (rd 4) (cst (.int 8)) (envT y2 y3 (.val (.ref n)) (.val (.lst (List.replicate 10 (.ref n)))) .un) (Xs s1 [.lst [.int 7]]) = some (.nx (envT y2 y3 (.val (.ref n)) (.val (.lst (List.replicate 10 (.ref n)))) .un), s2) := by
    rw [hs2]
    exact sapp_of hob (by decide) rfl rfl
  rw [Lm.seq_nx k3, ← hs2]
  have k4 : frz (compM (seqI (rd 5)) (nameT 6) (tstM (opM neM (rd 6) (frz (lstM (aCons (cst (.int 7)) (aCons (cst (.int 8)) aNil)))))) (rd 6) [6]) (envT y2 y3 (.val (.ref n)) (.val (.lst (List.replicate 10 (.ref n)))) .un) s2 = some (.lst [], s2) := by
    show (compM (seqI (rd 5)) (nameT 6) (tstM (opM neM (rd 6) (frz (lstM (aCons (cst (.int 7)) (aCons (cst (.int 8)) aNil)))))) (rd 6) [6] (envT y2 y3 (.val (.ref n)) (.val (.lst (List.replicate 10 (.ref n)))) .un) s2).map _ = _
    rw [v_compM, v_seqI, show rd 5 (envT y2 y3 (.val (.ref n)) (.val (.lst (List.replicate 10 (.ref n)))) .un) s2 = some (.lst (List.replicate 10 (.ref n)), s2) from rfl, Option.bind_some]
    show ((((some (List.replicate 10 (D.ref n))).map fun ds => (ds, s2)) : Option (List D × S)).bind fun p => grd p.1.length (compL (nameT 6) (tstM (opM neM (rd 6) (frz (lstM (aCons (cst (.int 7)) (aCons (cst (.int 8)) aNil)))))) (rd 6) (envT y2 y3 (.val (.ref n)) (.val (.lst (List.replicate 10 (.ref n)))) .un) p.1 p.2)).map _ = _
    rw [Option.map_some, Option.bind_some]
    show (grd (List.replicate 10 (D.ref n)).length (compL (nameT 6) (tstM (opM neM (rd 6) (frz (lstM (aCons (cst (.int 7)) (aCons (cst (.int 8)) aNil)))))) (rd 6) (envT y2 y3 (.val (.ref n)) (.val (.lst (List.replicate 10 (.ref n)))) .un) (List.replicate 10 (D.ref n)) s2)).map _ = _
    rw [compL_pure (fun _ => false) id (List.replicate 10 (D.ref n)) fun d hd => by
      rw [List.eq_of_mem_replicate hd]
      refine ⟨envT y2 y3 (.val (.ref n)) (.val (.lst (List.replicate 10 (.ref n)))) (.val (.ref n)), rfl, Lm.tst_of ?_, fun z => nomatch z⟩
      rw [v_opM, show rd 6 (envT y2 y3 (.val (.ref n)) (.val (.lst (List.replicate 10 (.ref n)))) (.val (.ref n))) s2 = some (.ref n, s2) from rfl, Option.bind_some,
        show frz (lstM (aCons (cst (.int 7)) (aCons (cst (.int 8)) aNil))) (envT y2 y3 (.val (.ref n)) (.val (.lst (List.replicate 10 (.ref n)))) (.val (.ref n))) s2 = some (.lst [.int 7, .int 8], s2) from rfl, Option.bind_some]
      have hd2 : dr s2 (.ref n) = .lst [.int 7, .int 8] := by
        show (match s2.ob[n]? with | some (.lst ds) => D.lst ds | some (.dic _ ks ds) => .dic ks ds | _ => .ref n) = _
        rw [hob2]
      show (neM (dr s2 (.ref n)) (dr s2 (.lst [.int 7, .int 8]))).map _ = _
      rw [hd2]; rfl]
    rw [show List.map id (List.filter (fun _ => false) (List.replicate 10 (D.ref n))) = [] from rfl]
    unfold grd
    rw [cif_of (by rw [List.length_replicate]; decide)]; rfl
  rw [Lm.seq_nx (e := envT y2 y3 (.val (.ref n)) (.val (.lst (List.replicate 10 (.ref n)))) .un) (s1 := s2) (Lm.ifs_f (Lm.tst_of (op_of k4 (show frz (lstM aNil) (envT y2 y3 (.val (.ref n)) (.val (.lst (List.replicate 10 (.ref n)))) .un) s2 = some (.lst [], s2) from rfl) (fun _ => rfl) (fun _ => rfl) (z := .bl false) rfl)) v_nxM)]
  rw [Lm.seq_nx (e := envT y2 y3 (.val (.ref n)) (.val (.lst (ndL.take 9))) .un) (s1 := s2) rfl]
  rw [Lm.seq_nx (e := envT y2 y3 (.val (.ref n)) (.val (.lst (ndL.take 11))) .un) (s1 := s2) (Lm.asg_nx (d := .lst (ndL.take 11)) (Lm.add_lst (f := rd 5) (xs := ndL.take 9) (ys := [.int 40, .int 4]) (s1 := s2) rfl rfl (by decide)))]
  refine Lm.ret_of (op_of (x := .str t) (y := .str t) (cb_of (d := .lst ndL) (Lm.add_lst (f := rd 5) (xs := ndL.take 11) (ys := [.int 60, .int 60]) (s1 := s2) rfl rfl (by decide)) (fun _ => rfl) ht) (cb_of (f := frz _) (d := .lst ndL) rfl (fun _ => rfl) ht) (fun _ => rfl) (fun _ => rfl) ?_)
  unfold eqM eqB
  rw [show sEq (.str t) (.str t) = some (decide (t = t)) from rfl, decide_eq_true rfl]; rfl
end Lw

open PySem PySem.W PyProof.Rows
set_option maxHeartbeats 0 in
theorem PySem.Challenge.cw_unitlimits_k00_errors_made_by_hand_holds : PySem.Challenge.rw_unitlimits_k00_errors_made_by_hand.Holds := by
  refine hd ?_
  k_fill
  refine MD.walkG (l := PySem.Challenge.rw_unitlimits_k00_errors_made_by_hand) (n := 63) (k := 4) (x := "_law_script") rfl (by decide) rfl ⟨rfl, by decide, by decide⟩ (fun w h Y => PySem.W.kIn_of Y) ?F
  case F =>
    intro w mg fa h KX G hmg
    refine' Lw.all_mk { w := w } Lw.law_holds KX G hmg ?ax0 ?lx0 ?ccx0 ?kx0 ?ax1 ?lx1 ?ccx1 ?kx1 ?ax2 ?lx2 ?ccx2 ?kx2 ?ax3 ?lx3 ?ccx3 ?kx3 ?ax4 ?lx4 ?ccx4 ?kx4 ?ax5 ?lx5 ?ccx5 ?kx5 ?ax6 ?lx6 ?ccx6 ?kx6 ?ax7 ?lx7 ?ccx7 ?kx7 ?aC_UnitError ?br_UnitError ?bg_UnitError ?au_UnitError ?aC_BadText ?xL_BadText ?sa_BadText ?ga_BadText ?gg_BadText ?no_BadText ?hd_BadText ?kc_BadText ?ex_BadText ?ty_BadText ?ic_BadText ?ai_BadText ?ti_BadText ?li_BadText ?ci_BadText ?ki_BadText ?aC_BadScheme ?xL_BadScheme ?sa_BadScheme ?ga_BadScheme ?gg_BadScheme ?no_BadScheme ?hd_BadScheme ?kc_BadScheme ?ex_BadScheme ?ty_BadScheme ?ic_BadScheme ?ai_BadScheme ?ti_BadScheme ?li_BadScheme ?ci_BadScheme ?ki_BadScheme ?aC_BadCuts ?xL_BadCuts ?sa_BadCuts ?ga_BadCuts ?gg_BadCuts ?no_BadCuts ?hd_BadCuts ?kc_BadCuts ?ex_BadCuts ?ty_BadCuts ?ic_BadCuts ?ai_BadCuts ?ti_BadCuts ?li_BadCuts ?ci_BadCuts ?ki_BadCuts ?aC_BadWord ?xL_BadWord ?sa_BadWord ?ga_BadWord ?gg_BadWord ?no_BadWord ?hd_BadWord ?kc_BadWord ?ex_BadWord ?ty_BadWord ?ic_BadWord ?ai_BadWord ?ti_BadWord ?li_BadWord ?ci_BadWord ?ki_BadWord ?aC_BadLimit ?xL_BadLimit ?sa_BadLimit ?ga_BadLimit ?gg_BadLimit ?no_BadLimit ?hd_BadLimit ?kc_BadLimit ?ex_BadLimit ?ty_BadLimit ?ic_BadLimit ?ai_BadLimit ?ti_BadLimit ?li_BadLimit ?ci_BadLimit ?ki_BadLimit ?aC_Overlong ?xL_Overlong ?sa_Overlong ?ga_Overlong ?gg_Overlong ?no_Overlong ?hd_Overlong ?kc_Overlong ?ex_Overlong ?ty_Overlong ?ic_Overlong ?ai_Overlong ?ti_Overlong ?li_Overlong ?ci_Overlong ?ki_Overlong ?aC_BadEdit ?xL_BadEdit ?sa_BadEdit ?ga_BadEdit ?gg_BadEdit ?no_BadEdit ?hd_BadEdit ?kc_BadEdit ?ex_BadEdit ?ty_BadEdit ?ic_BadEdit ?ai_BadEdit ?ti_BadEdit ?li_BadEdit ?ci_BadEdit ?ki_BadEdit ?aC_Rejected ?xL_Rejected ?sa_Rejected ?ga_Rejected ?gg_Rejected ?no_Rejected ?hd_Rejected ?kc_Rejected ?ex_Rejected ?ty_Rejected ?ic_Rejected ?ai_Rejected ?ti_Rejected ?li_Rejected ?ci_Rejected ?ki_Rejected ?zL_LE ?vL_LE ?aC_NoCut ?xL_NoCut ?sa_NoCut ?ga_NoCut ?gg_NoCut ?no_NoCut ?hd_NoCut ?kc_NoCut ?ex_NoCut ?ty_NoCut ?ic_NoCut ?ai_NoCut ?ti_NoCut ?li_NoCut ?ci_NoCut ?ki_NoCut ?aC_NoVersion ?xL_NoVersion ?sa_NoVersion ?ga_NoVersion ?gg_NoVersion ?no_NoVersion ?hd_NoVersion ?kc_NoVersion ?ex_NoVersion ?ty_NoVersion ?ic_NoVersion ?ai_NoVersion ?ti_NoVersion ?li_NoVersion ?ci_NoVersion ?ki_NoVersion ?aC_Busy ?ev_Busy ?kv_Busy ?aC_TooManyEdits ?ev_TooManyEdits ?kv_TooManyEdits ?aC_NothingToUndo ?ev_NothingToUndo ?kv_NothingToUndo ?aC_NothingToRedo ?ev_NothingToRedo ?kv_NothingToRedo ?aC_BadEdits ?ev_BadEdits ?kv_BadEdits ?ev_UnitError ?kv_UnitError ?kt_BadText ?kt_BadScheme ?kt_BadCuts ?kt_BadWord ?kt_BadLimit ?kt_Overlong ?kt_Busy ?kt_TooManyEdits ?kt_NothingToUndo ?kt_NothingToRedo ?kt_BadEdits ?kt_BadEdit ?kt_Rejected ?kt_LookupError ?kt_UnitError ?kt_ValueError ?kt_NoVersion ?kt_NoCut ?aC_Bench ?rk_Bench ?gk_Bench ?aC_KeepBench ?rk_KeepBench ?gk_KeepBench ?vk_Bench_MOST_EDITS ?vk_KeepBench_MOST_EDITS ?z_n_len ?z_n_str ?z_n_isinstance ?z_n_range ?z_n_LookupError ?z_n_ValueError ?z_n_repr ?z_c_MAX_LETTERS ?z_c_MAX_STATES ?z_c_MAX_COUNT ?z_c_MAX_MOST ?z_c_MAX_CUT ?z_c_MAX_CUTS ?z_c_MAX_LENGTH ?z_c_MAX_EDITS ?z_c_BATCH ?z_c_MAX_PARTED ?z_c_MAX_ROAD ?z_n_int ?z_n_abs
    (case ax0 => k_is); (case lx0 => k_is); (case ccx0 => k_is); (case kx0 => k_is); (case ax1 => k_is); (case lx1 => k_is); (case ccx1 => k_is); (case kx1 => k_is); (case ax2 => k_is); (case lx2 => k_is); (case ccx2 => k_is); (case kx2 => k_is); (case ax3 => k_is); (case lx3 => k_is); (case ccx3 => k_is); (case kx3 => k_is); (case ax4 => k_is); (case lx4 => k_is); (case ccx4 => k_is); (case kx4 => k_is); (case ax5 => k_is); (case lx5 => k_is); (case ccx5 => k_is); (case kx5 => k_is); (case ax6 => k_is); (case lx6 => k_is); (case ccx6 => k_is); (case kx6 => k_is); (case ax7 => k_is); (case lx7 => k_is); (case ccx7 => k_is); (case kx7 => k_is); (case aC_UnitError => k_is); (case br_UnitError => k_is); (case bg_UnitError => k_is); (case au_UnitError => k_is); (case aC_BadText => k_is); (case xL_BadText => k_is); (case sa_BadText => k_is); (case ga_BadText => k_is); (case gg_BadText => k_is); (case no_BadText => k_is); (case hd_BadText => k_is); (case kc_BadText => k_is); (case ex_BadText => k_is); (case ty_BadText => k_is); (case ic_BadText => k_is); (case ai_BadText => k_is); (case ti_BadText => k_is); (case li_BadText => k_is); (case ci_BadText => k_is); (case ki_BadText => k_is); (case aC_BadScheme => k_is); (case xL_BadScheme => k_is); (case sa_BadScheme => k_is); (case ga_BadScheme => k_is); (case gg_BadScheme => k_is); (case no_BadScheme => k_is); (case hd_BadScheme => k_is); (case kc_BadScheme => k_is); (case ex_BadScheme => k_is); (case ty_BadScheme => k_is); (case ic_BadScheme => k_is); (case ai_BadScheme => k_is); (case ti_BadScheme => k_is); (case li_BadScheme => k_is); (case ci_BadScheme => k_is); (case ki_BadScheme => k_is); (case aC_BadCuts => k_is); (case xL_BadCuts => k_is); (case sa_BadCuts => k_is); (case ga_BadCuts => k_is); (case gg_BadCuts => k_is); (case no_BadCuts => k_is); (case hd_BadCuts => k_is); (case kc_BadCuts => k_is); (case ex_BadCuts => k_is); (case ty_BadCuts => k_is); (case ic_BadCuts => k_is); (case ai_BadCuts => k_is); (case ti_BadCuts => k_is); (case li_BadCuts => k_is); (case ci_BadCuts => k_is); (case ki_BadCuts => k_is); (case aC_BadWord => k_is); (case xL_BadWord => k_is); (case sa_BadWord => k_is); (case ga_BadWord => k_is); (case gg_BadWord => k_is); (case no_BadWord => k_is); (case hd_BadWord => k_is); (case kc_BadWord => k_is); (case ex_BadWord => k_is); (case ty_BadWord => k_is); (case ic_BadWord => k_is); (case ai_BadWord => k_is); (case ti_BadWord => k_is); (case li_BadWord => k_is); (case ci_BadWord => k_is); (case ki_BadWord => k_is); (case aC_BadLimit => k_is); (case xL_BadLimit => k_is); (case sa_BadLimit => k_is); (case ga_BadLimit => k_is); (case gg_BadLimit => k_is); (case no_BadLimit => k_is); (case hd_BadLimit => k_is); (case kc_BadLimit => k_is); (case ex_BadLimit => k_is); (case ty_BadLimit => k_is); (case ic_BadLimit => k_is); (case ai_BadLimit => k_is); (case ti_BadLimit => k_is); (case li_BadLimit => k_is); (case ci_BadLimit => k_is); (case ki_BadLimit => k_is); (case aC_Overlong => k_is); (case xL_Overlong => k_is); (case sa_Overlong => k_is); (case ga_Overlong => k_is); (case gg_Overlong => k_is); (case no_Overlong => k_is); (case hd_Overlong => k_is); (case kc_Overlong => k_is); (case ex_Overlong => k_is); (case ty_Overlong => k_is); (case ic_Overlong => k_is); (case ai_Overlong => k_is); (case ti_Overlong => k_is); (case li_Overlong => k_is); (case ci_Overlong => k_is); (case ki_Overlong => k_is); (case aC_BadEdit => k_is); (case xL_BadEdit => k_is); (case sa_BadEdit => k_is); (case ga_BadEdit => k_is); (case gg_BadEdit => k_is); (case no_BadEdit => k_is); (case hd_BadEdit => k_is); (case kc_BadEdit => k_is); (case ex_BadEdit => k_is); (case ty_BadEdit => k_is); (case ic_BadEdit => k_is); (case ai_BadEdit => k_is); (case ti_BadEdit => k_is); (case li_BadEdit => k_is); (case ci_BadEdit => k_is); (case ki_BadEdit => k_is); (case aC_Rejected => k_is); (case xL_Rejected => k_is); (case sa_Rejected => k_is); (case ga_Rejected => k_is); (case gg_Rejected => k_is); (case no_Rejected => k_is); (case hd_Rejected => k_is); (case kc_Rejected => k_is); (case ex_Rejected => k_is); (case ty_Rejected => k_is); (case ic_Rejected => k_is); (case ai_Rejected => k_is); (case ti_Rejected => k_is); (case li_Rejected => k_is); (case ci_Rejected => k_is); (case ki_Rejected => k_is); (case zL_LE => k_is); (case vL_LE => k_is); (case aC_NoCut => k_is); (case xL_NoCut => k_is); (case sa_NoCut => k_is); (case ga_NoCut => k_is); (case gg_NoCut => k_is); (case no_NoCut => k_is); (case hd_NoCut => k_is); (case kc_NoCut => k_is); (case ex_NoCut => k_is); (case ty_NoCut => k_is); (case ic_NoCut => k_is); (case ai_NoCut => k_is); (case ti_NoCut => k_is); (case li_NoCut => k_is); (case ci_NoCut => k_is); (case ki_NoCut => k_is); (case aC_NoVersion => k_is); (case xL_NoVersion => k_is); (case sa_NoVersion => k_is); (case ga_NoVersion => k_is); (case gg_NoVersion => k_is); (case no_NoVersion => k_is); (case hd_NoVersion => k_is); (case kc_NoVersion => k_is); (case ex_NoVersion => k_is); (case ty_NoVersion => k_is); (case ic_NoVersion => k_is); (case ai_NoVersion => k_is); (case ti_NoVersion => k_is); (case li_NoVersion => k_is); (case ci_NoVersion => k_is); (case ki_NoVersion => k_is); (case aC_Busy => k_is); (case ev_Busy => first | k_is | exact (by kernel_rfl)); (case kv_Busy => k_is); (case aC_TooManyEdits => k_is); (case ev_TooManyEdits => first | k_is | exact (by kernel_rfl)); (case kv_TooManyEdits => k_is); (case aC_NothingToUndo => k_is); (case ev_NothingToUndo => first | k_is | exact (by kernel_rfl)); (case kv_NothingToUndo => k_is); (case aC_NothingToRedo => k_is); (case ev_NothingToRedo => first | k_is | exact (by kernel_rfl)); (case kv_NothingToRedo => k_is); (case aC_BadEdits => k_is); (case ev_BadEdits => first | k_is | exact (by kernel_rfl)); (case kv_BadEdits => k_is); (case ev_UnitError => first | k_is | exact (by kernel_rfl)); (case kv_UnitError => k_is); (case kt_BadText => first | k_is | exact (by kernel_rfl)); (case kt_BadScheme => first | k_is | exact (by kernel_rfl)); (case kt_BadCuts => first | k_is | exact (by kernel_rfl)); (case kt_BadWord => first | k_is | exact (by kernel_rfl)); (case kt_BadLimit => first | k_is | exact (by kernel_rfl)); (case kt_Overlong => first | k_is | exact (by kernel_rfl)); (case kt_Busy => first | k_is | exact (by kernel_rfl)); (case kt_TooManyEdits => first | k_is | exact (by kernel_rfl)); (case kt_NothingToUndo => first | k_is | exact (by kernel_rfl)); (case kt_NothingToRedo => first | k_is | exact (by kernel_rfl)); (case kt_BadEdits => first | k_is | exact (by kernel_rfl)); (case kt_BadEdit => first | k_is | exact (by kernel_rfl)); (case kt_Rejected => first | k_is | exact (by kernel_rfl)); (case kt_LookupError => first | k_is | exact (by kernel_rfl)); (case kt_UnitError => first | k_is | exact (by kernel_rfl)); (case kt_ValueError => first | k_is | exact (by kernel_rfl)); (case kt_NoVersion => first | k_is | exact (by kernel_rfl)); (case kt_NoCut => first | k_is | exact (by kernel_rfl)); (case aC_Bench => k_is); (case rk_Bench => k_is); (case gk_Bench => k_is); (case aC_KeepBench => k_is); (case rk_KeepBench => k_is); (case gk_KeepBench => k_is); (case vk_Bench_MOST_EDITS => k_is); (case vk_KeepBench_MOST_EDITS => k_is); (case z_n_len => k_is); (case z_n_str => k_is); (case z_n_isinstance => k_is); (case z_n_range => k_is); (case z_n_LookupError => k_is); (case z_n_ValueError => k_is); (case z_n_repr => k_is); (case z_c_MAX_LETTERS => k_is); (case z_c_MAX_STATES => k_is); (case z_c_MAX_COUNT => k_is); (case z_c_MAX_MOST => k_is); (case z_c_MAX_CUT => k_is); (case z_c_MAX_CUTS => k_is); (case z_c_MAX_LENGTH => k_is); (case z_c_MAX_EDITS => k_is); (case z_c_BATCH => k_is); (case z_c_MAX_PARTED => k_is); (case z_c_MAX_ROAD => k_is); (case z_n_int => k_is); (case z_n_abs => k_is)

