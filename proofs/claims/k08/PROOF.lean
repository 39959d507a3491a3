import PyProof.Rows.All
import Wide.All
import OpenK.AllK
import Wide.FinOn
import HandS.ForMost
import HandS.Replace
import HandS.TupAny
import HandS.RaiseMore
import PyProof.TupleOfStr
import KE.GoesMore
import KE.KDictKeyed
import HandS.Lambda
import HandS.ExcInit
import HandS.ExcValue
import HandS.ForDict
import HandS.More
import HandS.DictComp
import HandS.TupMul
import HandS.IsInst
import HandS.Style
import KE.LtData
import HandS.Conv
import PyProof.ReprRoads
import PyProof.StrOps2
import PyProof.ListStr
import HandS.Text
import HandS.Codes
import KE.KRevSl
import KE.SortData
import KE.DataMinMax
import HandS.Zip
import HandS.SetKeys
import PyProof.IsRules
import HandS.Strs
import HandS.SetFor
import HandS.TupLen
import HandS.ClsMeth
import PyProof.AutoSeq1
import KE.KDictCopyH
import HandS.Deep
import HandS.FStr
import HandS.ExcOwn
import KE.KExcInit
import HandS.Defaults
import KE.KNest
import KE.GoesZip
import KE.DatumOrd
import HandS.SortKw
import KE.KNestM
import HandS.TryMany
import HandS.SlotsOwn
import KE.KOpsOwn
import PyProof.ReprBulk
import KE.OsRunLaw
import PySem.Challenge.RW_unitlimits_k08_items_and_operators_of_be
set_option Elab.async false
set_option linter.all false
set_option maxRecDepth 100000
set_option maxHeartbeats 1000000
namespace Hd
open PySem PySem.W PySem.Calls PyProof.Rows HeadRun
theorem hdSplit {X A B C : Type} {x : Option X} {f : X → A} {g : X → B} {h : X → C} {a : A} {b : B} {c : C} (h1 : x.map f = some a) (h2 : x.map g = some b) (h3 : x.map h = some c) : x.map (fun s => (f s, g s, h s)) = some (a, b, c) := by
  cases x with
  | none => cases h1
  | some s => cases h1; cases h2; cases h3; rfl
theorem hdPair {X A B : Type} {x : Option X} {f : X → A × B} {g : A × B} (h1 : x.map (fun s => (f s).1) = some g.1) (h2 : x.map (fun s => (f s).2) = some g.2) : x.map f = some g := by
  cases x with
  | none => cases h1
  | some s => exact congrArg some (Prod.ext (Option.some.inj h1) (Option.some.inj h2))
theorem hdCast {P Q : Prop} (h : Q) (e : P = Q) : P := Eq.mpr e h
abbrev p : Program := PySem.Challenge.pw_unitlimits_k08_items_and_operators_of_be
def q : Program := { p with main := { p.main with body := ([0, 1, 2, 3, 4, 5, 6, 7, 9, 10, 13, 14, 15, 16, 17, 18, 19, 20, 21, 22, 23, 24, 25, 26, 28, 29, 30, 31, 32, 33, 34, 35, 36, 37, 38, 39, 41, 42, 43, 44, 45, 46, 48, 49, 51, 52, 53, 54, 55, 56, 57, 58, 60, 61, 63, 64, 65, 66, 67, 68, 69, 70, 71, 72, 73, 74, 75, 76, 77, 78, 79, 80, 81] : List Nat).filterMap fun i => p.main.body[i]? } }
def loose : List PySem.Str := [PySem.Str.ofString "is_integer_cuts", PySem.Str.ofString "left_cuts", PySem.Str.ofString "is_integer_words", PySem.Str.ofString "Bench", PySem.Str.ofString "KeepBench"]
theorem l1 : ∀ (w : World) (os : OsState), (endF (stepQ (denQ tabQ) p w) 12954 p w os).map (fun s => looksF p (boot_heap w.params) s.abs) = some true := by
  intro w os; kernel_rfl
theorem l2a : ∀ (w : World) (os : OsState), (endF (stepQ (denQ tabQ) p w) 12954 p w os).map (fun s => (seenQ q loose (importedModules p.main.body) (fun s => xlAt q [] s && recOk (RowW.records PySem.Challenge.rw_unitlimits_k08_items_and_operators_of_be.row.toRowW) s) s.abs).1) = some (expectedOf q) := by
  intro w os; kernel_rfl
theorem l2b : ∀ (w : World) (os : OsState), (endF (stepQ (denQ tabQ) p w) 12954 p w os).map (fun s => (seenQ q loose (importedModules p.main.body) (fun s => xlAt q [] s && recOk (RowW.records PySem.Challenge.rw_unitlimits_k08_items_and_operators_of_be.row.toRowW) s) s.abs).2.1) = some (bltViewBooted) := by
  intro w os; kernel_rfl
theorem l2c : ∀ (w : World) (os : OsState), (endF (stepQ (denQ tabQ) p w) 12954 p w os).map (fun s => (seenQ q loose (importedModules p.main.body) (fun s => xlAt q [] s && recOk (RowW.records PySem.Challenge.rw_unitlimits_k08_items_and_operators_of_be.row.toRowW) s) s.abs).2.2.1) = some (true) := by
  intro w os; kernel_rfl
theorem l2d : ∀ (w : World) (os : OsState), (endF (stepQ (denQ tabQ) p w) 12954 p w os).map (fun s => (seenQ q loose (importedModules p.main.body) (fun s => xlAt q [] s && recOk (RowW.records PySem.Challenge.rw_unitlimits_k08_items_and_operators_of_be.row.toRowW) s) s.abs).2.2.2.1) = some (true) := by
  intro w os; kernel_rfl
theorem l2e : ∀ (w : World) (os : OsState), (endF (stepQ (denQ tabQ) p w) 12954 p w os).map (fun s => (seenQ q loose (importedModules p.main.body) (fun s => xlAt q [] s && recOk (RowW.records PySem.Challenge.rw_unitlimits_k08_items_and_operators_of_be.row.toRowW) s) s.abs).2.2.2.2) = some (pinGoodD (drecsOf q), plainGoodE q (looseW q loose), plainGoodD q loose, wideGood q, clsGoodW q loose) := by
  intro w os; kernel_rfl
theorem l2 (w : World) (os : OsState) : (endF (stepQ (denQ tabQ) p w) 12954 p w os).map (fun s => seenQ q loose (importedModules p.main.body) (fun s => xlAt q [] s && recOk (RowW.records PySem.Challenge.rw_unitlimits_k08_items_and_operators_of_be.row.toRowW) s) s.abs) = some (openGood q loose) :=
  hdPair (l2a w os) (hdPair (l2b w os) (hdPair (l2c w os) (hdPair (l2d w os) (l2e w os))))
end Hd
section
open PySem PySem.W PyProof.Rows
local macro_rules | `(tactic| kernel_rfl) => `(tactic| (with_reducible refine Hd.hdSplit ?_ ?_ ?_; (rename_i w os; refine Hd.hdCast (Hd.l1 w os) ?_; kernel_rfl); (rename_i w os; refine Hd.hdCast (Hd.l2 w os) ?_; kernel_rfl); kernel_rfl))
local macro_rules | `(tactic| k_head) => `(tactic| k_headL)
open_top hd for PySem.Challenge.rw_unitlimits_k08_items_and_operators_of_be
end
namespace MD
open PySem L2
inductive D where
  | non | bl (b : Bool) | int (i : Int) | str (s : Str) | lst (xs : List D) | tup (xs : List D) | deck
  | dic (ks : List Key) (xs : List D) | ref (n : Nat)
mutual
noncomputable def nkOf : D → Option NestedKey
  | .non => some .none
  | .bl b => some (.num (if b = true then 1 else 0))
  | .int i => some (.num i)
  | .tup ds => (nksOf ds).map .tup
  | .str x => some (.text x)
  | .lst _ => none
  | .deck => none
  | .dic _ _ => none
  | .ref _ => none
noncomputable def nksOf : List D → Option (List NestedKey)
  | [] => some []
  | d :: ds => (nkOf d).bind fun k => (nksOf ds).map (k :: ·)
end
class WW where
  w : World
  cv : List V := []
  tb : Str → Option Addr := fun _ => none
  cd : Option (Addr × Str) := none
noncomputable def nent (w : World) (z : NestedKey × Addr × Value) : DictEntry := ⟨z.1.hash w, .ref z.2.1, z.2.2⟩
/-- at a stands a dict with these keys, tuples at these addresses, and values -/
noncomputable def NkAt [WW] (a : Addr) (zs : List (NestedKey × Addr × Value)) (h : Heap) : Prop :=
  (a == sysModules) = false ∧ zs.length ≤ sizeLine ∧ ∃ o es ep, h.get? a = some o ∧ o.ExactDict ∧ o.data = .dict es ep ∧ es.toList = zs.map (nent WW.w)
variable {ww : WW}
/-- things that change and are known to many: by their number -/
inductive Ob where
  | lst (xs : List D) | dic (lk : Bool) (ks : List Key) (xs : List D) | ins (c : Str) (fs : List Str) (xs : List D) | nkd (ks : List D) (xs : List D) | nkl (ks : List D) (xs : List D) | tab (q : Str) | exc (c : Str)
structure S where
  cells : List Int
  n : Int
  ob : List Ob
/-- what a name alone holds and may change: a list, a dict with these keys -/
inductive Ow where
  | lst | dic (ks : List Key)
noncomputable def Ow.At (H : Hp) (p : Addr) : Ow → List V → Prop
  | .lst, vs => H p = some (.lst vs)
  | .dic ks, vs => H p = some (.dK (ks.zip vs)) ∧ ks.length = vs.length
theorem Ow.At.some {H : Hp} {p : Addr} : ∀ {w : Ow} {vs : List V}, w.At H p vs → ∃ o, H p = some o
  | .lst, _, h => ⟨_, h⟩
  | .dic _, _, h => ⟨_, h.1⟩
/-- an own thing is not locked -/
theorem Ow.At.keep {H H' : Hp} {p : Addr} (e : ∀ o, H p = Option.some o → H' p = Option.some o) : ∀ {w : Ow} {vs : List V}, w.At H p vs → w.At H' p vs
  | .lst, _, h => e _ h
  | .dic _, _, h => ⟨e _ h.1, h.2⟩
noncomputable abbrev Own := Ow × List D
inductive Sl where
  | un | val (d : D) | own (xs : Own) | cap (o : Option (List D))
noncomputable abbrev Sg := List Sl
noncomputable abbrev Dk := Addr × Addr
noncomputable abbrev Fg := PySem.W.Frag
/-- the frozen things, and where the store's things stand -/
structure Fz where
  hp : Hp
  mu : List Addr
noncomputable instance : CoeFun Fz fun _ => Hp := ⟨Fz.hp⟩
noncomputable def Fz.up (F : Fz) (p : Addr) (o : HO) : Fz := ⟨upd F.hp p o, F.mu⟩
noncomputable def Fz.out (F : Fz) (p : Addr) : Prop := F.hp p = none ∧ p ∉ F.mu
theorem Fz.up_same {F : Fz} {p : Addr} {o : HO} : F.up p o p = some o := upd_same
theorem Fz.up_ne {F : Fz} {p q : Addr} {o : HO} (h : q ≠ p) : F.up p o q = F q := upd_ne h
mutual
inductive Rp (K : Fg) (dk : Dk) (F : Fz) : V → D → Prop
  | non : Rp K dk F .non .non
  | bl (b : Bool) : Rp K dk F (.bl b) (.bl b)
  | int (i : Int) : Rp K dk F (.int i) (.int i)
  | str (x : Str) : Rp K dk F (.str x) (.str x)
  | lst {a : Addr} {vs : List V} {ds : List D} : F a = some (.lst vs) → Rps K dk F vs ds → Rp K dk F (.ref a) (.lst ds)
  | tup {a : Addr} {vs : List V} {ds : List D} : SqT K F.hp a vs → Rps K dk F vs ds → Rp K dk F (.ref a) (.tup ds)
  | deck : Rp K dk F (.ref dk.1) .deck
  | dic {a : Addr} {ks : List Key} {vs : List V} {ds : List D} : F a = some (.dK (ks.zip vs)) → ks.length = vs.length → Rps K dk F vs ds → Rp K dk F (.ref a) (.dic ks ds)
  | ref {a : Addr} {n : Nat} : F.mu[n]? = some a → Rp K dk F (.ref a) (.ref n)
inductive Rps (K : Fg) (dk : Dk) (F : Fz) : List V → List D → Prop
  | nil : Rps K dk F [] []
  | cons {v : V} {vs : List V} {d : D} {ds : List D} : Rp K dk F v d → Rps K dk F vs ds → Rps K dk F (v :: vs) (d :: ds)
end
/-- a heap that keeps another's things -/
noncomputable def Lh (F F' : Hp) : Prop := ∀ a o, F a = some o → F' a = some o
theorem Lh.refl (F : Hp) : Lh F F := fun _ _ h => h
theorem Lh.trans {A B C : Hp} (x : Lh A B) (y : Lh B C) : Lh A C := fun a o h => y a o (x a o h)
theorem Lh.rd {F F' : Hp} {a : Addr} {u : HO} (e : Lh F F') (h : Rd F a u) : Rd F' a u := by
  rcases h with h | ⟨o, h⟩
  · exact .inl (e _ _ h)
  · exact .inr ⟨o, e _ _ h⟩
theorem Lh.sqT {K : Fg} {F F' : Hp} {a : Addr} {xs : List V} (e : Lh F F') (h : SqT K F a xs) : SqT K F' a xs := by
  rcases h with h | h
  · exact .inl (e.rd h)
  · exact .inr h
theorem Lh.free {F F' : Hp} {a : Addr} (e : Lh F F') (h : F' a = none) : F a = none := by
  cases q : F a with
  | none => rfl
  | some o => rw [e _ _ q] at h; cases h
theorem Lh.new {F : Hp} {p : Addr} {o : HO} (h : F p = none) : Lh F (upd F p o) := fun a u e => by
  rw [upd_ne (ne_of_none e h)]; exact e
/-- more is frozen, more stands in the store -/
structure Le (F F' : Fz) : Prop where
  h : Lh F.hp F'.hp
  m : ∃ l, F'.mu = F.mu ++ l
theorem Le.refl (F : Fz) : Le F F := ⟨Lh.refl _, [], by simp⟩
theorem Le.trans {A B C : Fz} (x : Le A B) (y : Le B C) : Le A C := ⟨x.h.trans y.h, by
  obtain ⟨l, e⟩ := x.m
  obtain ⟨l', e'⟩ := y.m
  exact ⟨l ++ l', by rw [e', e, List.append_assoc]⟩⟩
theorem Le.sqT {K : Fg} {F F' : Fz} {a : Addr} {xs : List V} (e : Le F F') (h : SqT K F.hp a xs) : SqT K F'.hp a xs := e.h.sqT h
theorem Le.new {F : Fz} {p : Addr} {o : HO} (h : F p = none) : Le F (F.up p o) := ⟨Lh.new h, [], by simp [Fz.up]⟩
theorem Le.at {F F' : Fz} (e : Le F F') {n : Nat} {a : Addr} (h : F.mu[n]? = some a) : F'.mu[n]? = some a := by
  obtain ⟨l, e⟩ := e.m
  rw [e, List.getElem?_append_left (by
    by_cases hl : n < F.mu.length
    · exact hl
    · rw [List.getElem?_eq_none (by omega)] at h; cases h)]
  exact h
theorem Le.mem {F F' : Fz} (e : Le F F') {a : Addr} (h : a ∈ F.mu) : a ∈ F'.mu := by
  obtain ⟨l, e⟩ := e.m
  rw [e]; exact List.mem_append_left _ h
/-- what is frozen stands in the heap; a dict may be locked -/
noncomputable def Sb (F : Fz) (H : Hp) : Prop := ∀ a o, F a = some o → H a = some o ∨ ∃ od kvs, o = .dK kvs ∧ H a = some (.frz od o)
section
variable {F F' : Fz} {H H' : Hp} {K : Fg} {a : Addr}
theorem Sb.lst {vs : List V} (s : Sb F H) (h : F a = some (.lst vs)) : H a = some (.lst vs) := by
  rcases s a _ h with z | ⟨od, kvs, z, _⟩
  · exact z
  · cases z
theorem Sb.dK {kvs : List (Key × V)} (s : Sb F H) (h : F a = some (.dK kvs)) : Rd H a (.dK kvs) := by
  rcases s a _ h with z | ⟨od, _, _, z⟩
  · exact .inl z
  · exact .inr ⟨od, z⟩
theorem Sb.sqT {xs : List V} (s : Sb F H) (h : SqT K F.hp a xs) : SqT K H a xs := by
  rcases h with h | h
  · rcases h with h | ⟨o, h⟩
    · rcases s a _ h with z | ⟨_, _, z, _⟩
      · exact .inl (.inl z)
      · cases z
    · rcases s a _ h with z | ⟨_, _, z, _⟩
      · exact .inl (.inr ⟨o, z⟩)
      · cases z
  · exact .inr h
theorem Sb.free (s : Sb F H) (h : H a = none) : F a = none := by
  cases q : F a with
  | none => rfl
  | some o =>
    rcases s a _ q with z | ⟨_, _, _, z⟩ <;> rw [z] at h <;> cases h
theorem Sb.some (s : Sb F H) {o : HO} (h : F a = some o) : H a ≠ none := fun z => by rw [s.free z] at h; cases h
theorem Le.sb (e : Le F F') (s : Sb F' H) : Sb F H := fun a o h => s a o (e.h a o h)
theorem Sb.lh (s : Sb F H) (e : Lh H H') : Sb F H' := fun a o h => by
  rcases s a o h with z | ⟨od, kvs, z1, z⟩
  · exact .inl (e _ _ z)
  · exact .inr ⟨od, kvs, z1, e _ _ z⟩
end
mutual
theorem Rp.mono {K : Fg} {dk : Dk} {F F' : Fz} (e : Le F F') : ∀ {v : V} {d : D}, Rp K dk F v d → Rp K dk F' v d
  | _, _, .non => .non
  | _, _, .bl b => .bl b
  | _, _, .int i => .int i
  | _, _, .str x => .str x
  | _, _, .lst h r => .lst (e.h _ _ h) (Rps.mono e r)
  | _, _, .tup h r => .tup (e.sqT h) (Rps.mono e r)
  | _, _, .deck => .deck
  | _, _, .dic h l r => .dic (e.h _ _ h) l (Rps.mono e r)
  | _, _, .ref h => .ref (e.at h)
theorem Rps.mono {K : Fg} {dk : Dk} {F F' : Fz} (e : Le F F') : ∀ {vs : List V} {ds : List D}, Rps K dk F vs ds → Rps K dk F' vs ds
  | _, _, .nil => .nil
  | _, _, .cons a b => .cons (Rp.mono e a) (Rps.mono e b)
end
section
variable {K : Fg} {dk : Dk} {F F' : Fz} {H H' : Hp}
theorem Rps.length : ∀ {vs : List V} {ds : List D}, Rps K dk F vs ds → vs.length = ds.length
  | _, _, .nil => rfl
  | _, _, .cons _ r => by simp [Rps.length r]
theorem Rps.get : ∀ {vs : List V} {ds : List D} {i : Nat} {d : D}, Rps K dk F vs ds → ds[i]? = some d → ∃ v, vs[i]? = some v ∧ Rp K dk F v d
  | _, _, _, _, .nil, e => by simp at e
  | _, _, 0, _, .cons a _, e => by simp at e; subst e; exact ⟨_, rfl, a⟩
  | _, _, i + 1, _, .cons _ r, e => by
    obtain ⟨v, h1, h2⟩ := Rps.get (i := i) r (by simpa using e)
    exact ⟨v, by simpa using h1, h2⟩
theorem Rps.append : ∀ {vs us : List V} {ds es : List D}, Rps K dk F vs ds → Rps K dk F us es → Rps K dk F (vs ++ us) (ds ++ es)
  | _, _, _, _, .nil, s => s
  | _, _, _, _, .cons a r, s => .cons a (Rps.append r s)
theorem Rps.take : ∀ {vs : List V} {ds : List D} (n : Nat), Rps K dk F vs ds → Rps K dk F (vs.take n) (ds.take n)
  | _, _, 0, _ => .nil
  | _, _, _ + 1, .nil => .nil
  | _, _, n + 1, .cons a r => .cons a (Rps.take n r)
theorem Rps.drop : ∀ {vs : List V} {ds : List D} (n : Nat), Rps K dk F vs ds → Rps K dk F (vs.drop n) (ds.drop n)
  | _, _, 0, r => r
  | _, _, _ + 1, .nil => .nil
  | _, _, n + 1, .cons _ r => Rps.drop n r
theorem Rps.set {v : V} {d : D} (r : Rp K dk F v d) : ∀ {vs : List V} {ds : List D} (n : Nat), Rps K dk F vs ds → Rps K dk F (vs.set n v) (ds.set n d)
  | _, _, _, .nil => .nil
  | _, _, 0, .cons _ t => .cons r t
  | _, _, n + 1, .cons a t => .cons a (Rps.set r n t)
theorem Rps.one {v : V} {d : D} (r : Rp K dk F v d) : Rps K dk F [v] [d] := .cons r .nil
noncomputable def clsOf (K : Fg) (c : Str) : Option Addr := match PySem.W.nsIn K mainGlobals c with
  | some (some (.ref C)) => some C
  | _ => none
inductive ObAt [WW] (K : Fg) (dk : Dk) (F : Fz) (H : Hp) (a : Addr) : Ob → Prop
  | lst {vs : List V} {ds : List D} : H a = some (.lst vs) → Rps K dk F vs ds → ObAt K dk F H a (.lst ds)
  | dic {ks : List Key} {vs : List V} {ds : List D} : H a = some (.dK (ks.zip vs)) → ks.length = vs.length → Rps K dk F vs ds → ObAt K dk F H a (.dic false ks ds)
  | lck {od : Obj} {ks : List Key} {vs : List V} {ds : List D} : H a = some (.frz od (.dK (ks.zip vs))) → ks.length = vs.length → Rps K dk F vs ds → ObAt K dk F H a (.dic true ks ds)
  | ins {c : Str} {C dx : Addr} {fs : List Str} {vs : List V} {ds : List D} : clsOf K c = some C → H a = some (.ins C dx (fs.zip vs)) → fs.length = vs.length → Rps K dk F vs ds → ObAt K dk F H a (.ins c fs ds)
  | nkd {zs : List (NestedKey × Addr × Value)} {vs : List V} {ks ds : List D} : H a = some (.ext (NkAt a zs)) → Rps K dk F (zs.map fun z => V.ref z.2.1) ks → ks.map nkOf = zs.map (fun z => some z.1) →
      Vals vs (zs.map fun z => z.2.2) → Rps K dk F vs ds → (zs.map fun z => z.1).Nodup → (∀ z ∈ zs, z.1.depth ≤ 8) → ObAt K dk F H a (.nkd ks ds)
  | nkl {od : Obj} {zs : List (NestedKey × Addr × Value)} {vs : List V} {ks ds : List D} : H a = some (.frz od (.ext (NkAt a zs))) → Rps K dk F (zs.map fun z => V.ref z.2.1) ks → ks.map nkOf = zs.map (fun z => some z.1) →
      Vals vs (zs.map fun z => z.2.2) → Rps K dk F vs ds → (zs.map fun z => z.1).Nodup → (∀ z ∈ zs, z.1.depth ≤ 8) → ObAt K dk F H a (.nkl ks ds)
  | tab {q : Str} {ps : Array Value} : WW.tb q = some a → H a = some (.tbl ps) → TriplesOk ps.toList → (∀ (pos : Pos) (cv : Value), codeAmong pos ps.toList = some cv → ∃ c, cv = .ref c ∧ F c = some (LamX.CodeO c q)) → ObAt K dk F H a (.tab q)
  | exc {c : Str} {C d : Addr} {fs : List (Str × V)} : clsOf K c = some C → H a = some (L2.exo a C (some d)) → F d = some (L2.exd d fs) → ObAt K dk F H a (.exc c)
  | exc0 {c : Str} {C : Addr} : clsOf K c = some C → H a = some (L2.ExO (.ref C) a) → ObAt K dk F H a (.exc c)
theorem ObAt.some {a : Addr} {o : Ob} (h : ObAt K dk F H a o) : H a ≠ none := by
  intro z
  cases h with
  | lst h _ => rw [h] at z; cases z
  | dic h _ _ => rw [h] at z; cases z
  | lck h _ _ => rw [h] at z; cases z
  | ins _ h _ _ => rw [h] at z; cases z
  | nkd h _ _ _ _ _ _ => rw [h] at z; cases z
  | nkl h _ _ _ _ _ _ => rw [h] at z; cases z
  | tab _ h _ _ => rw [h] at z; cases z
  | exc _ h _ => rw [h] at z; cases z
  | exc0 _ h => rw [h] at z; cases z
theorem ObAt.keep {a : Addr} {o : Ob} (h : ObAt K dk F H a o) (e : ∀ o, H a = Option.some o → H' a = Option.some o) (le : Le F F') : ObAt K dk F' H' a o := by
  cases h with
  | lst h r => exact .lst (e _ h) (r.mono le)
  | dic h l r => exact .dic (e _ h) l (r.mono le)
  | lck h l r => exact .lck (e _ h) l (r.mono le)
  | ins c h l r => exact .ins c (e _ h) l (r.mono le)
  | nkd h k q v r n d => exact .nkd (e _ h) (k.mono le) q v (r.mono le) n d
  | nkl h k q v r n d => exact .nkl (e _ h) (k.mono le) q v (r.mono le) n d
  | tab b h t c =>
    refine .tab b (e _ h) t fun pos cv hc => ?_
    obtain ⟨x, e1, e2⟩ := c pos cv hc
    exact ⟨x, e1, le.h _ _ e2⟩
  | exc c h r => exact .exc c (e _ h) (le.h _ _ r)
  | exc0 c h => exact .exc0 c (e _ h)
structure Wd [WW] (K : Fg) (dk : Dk) (F : Fz) (H : Hp) (st : S) : Prop where
  sub : Sb F H
  d1 : H dk.1 = some (.lst [.ref dk.2, .int st.n])
  d2 : H dk.2 = some (.lst (st.cells.map V.int))
  f1 : F.out dk.1
  f2 : F.out dk.2
  ne : dk.1 ≠ dk.2
  ml : F.mu.length = st.ob.length
  nd : F.mu.Nodup
  ob : ∀ (n : Nat) (a : Addr) (o : Ob), F.mu[n]? = some a → st.ob[n]? = some o → F a = none ∧ ObAt K dk F H a o
theorem Wd.mu {st : S} (w : Wd K dk F H st) {a : Addr} (h : a ∈ F.mu) : ∃ (n : Nat) (o : Ob), F.mu[n]? = some a ∧ st.ob[n]? = some o ∧ F a = none ∧ ObAt K dk F H a o := by
  obtain ⟨n, hn, e⟩ := List.getElem_of_mem h
  have hn' : n < st.ob.length := by rw [← w.ml]; exact hn
  have e1 : F.mu[n]? = some a := by rw [List.getElem?_eq_getElem hn, e]
  have e2 := List.getElem?_eq_getElem hn'
  exact ⟨n, _, e1, e2, w.ob n a _ e1 e2⟩
theorem Wd.nomu {st : S} (w : Wd K dk F H st) {a : Addr} (h : H a = none) : a ∉ F.mu := fun z => by
  obtain ⟨n, o, _, _, _, q⟩ := w.mu z
  exact q.some h
theorem Wd.out {st : S} (w : Wd K dk F H st) {a : Addr} (h : H a = none) : F.out a := ⟨w.sub.free h, w.nomu h⟩
/-- locked -/
noncomputable def Fro (o : HO) : Prop := ∃ od u, o = .frz od u
structure Ext (dk : Dk) (F : Fz) (H : Hp) (F' : Fz) (H' : Hp) : Prop where
  h : ∀ a o, H a = some o → a ≠ dk.1 → a ≠ dk.2 → a ∉ F.mu ∨ Fro o → H' a = some o
  f : Le F F'
  n : ∀ a, F a = none → H a ≠ none → F' a = none
  m : ∀ a, H a ≠ none → H' a ≠ none
  u : ∀ a, a ∈ F'.mu → a ∈ F.mu ∨ H a = none
  k : ∀ a o, H' a = some o → Fro o → H a = some o
theorem Ext.refl (F : Fz) (H : Hp) : Ext dk F H F H := ⟨fun _ _ h _ _ _ => h, Le.refl F, fun _ h _ => h, fun _ h => h, fun _ h => .inl h, fun _ _ h _ => h⟩
theorem Ext.trans {A : Fz} {B : Hp} {F1 : Fz} {H1 : Hp} {F2 : Fz} {H2 : Hp} (x : Ext dk A B F1 H1) (y : Ext dk F1 H1 F2 H2) : Ext dk A B F2 H2 :=
  ⟨fun a o h n1 n2 n3 => y.h a o (x.h a o h n1 n2 n3) n1 n2 (n3.imp (fun n3 z => by
      rcases x.u a z with q | q
      · exact n3 q
      · rw [q] at h; cases h) id),
    x.f.trans y.f, fun a h1 h2 => y.n a (x.n a h1 h2) (x.m a h2), fun a h => y.m a (x.m a h), fun a h => by
      rcases y.u a h with q | q
      · exact x.u a q
      · refine .inr ?_
        cases w : B a with
        | none => rfl
        | some o => exact absurd q (x.m a (by rw [w]; exact fun z => nomatch z)), fun a o h f => x.k a o (y.k a o h f) f⟩
theorem Ext.out (x : Ext dk F H F' H') {a : Addr} (h : F.out a) (h2 : H a ≠ none) : F'.out a := ⟨x.n a h.1 h2, fun z => by
  rcases x.u a z with q | q
  · exact h.2 q
  · exact h2 q⟩
/-- an operation that keeps all and only lays new things -/
structure Px (F : Fz) (H : Hp) (F' : Fz) (H' : Hp) : Prop where
  h : Lh H H'
  f : Le F F'
  n : ∀ a, F a = none → H a ≠ none → F' a = none
  s : Sb F' H'
  m : F'.mu = F.mu
  k : ∀ a o, H' a = some o → Fro o → H a = some o
theorem Px.refl (s : Sb F H) : Px F H F H := ⟨Lh.refl H, Le.refl F, fun _ h _ => h, s, rfl, fun _ _ h _ => h⟩
theorem Px.ext (x : Px F H F' H') : Ext dk F H F' H' := ⟨fun a o e _ _ _ => x.h a o e, x.f, x.n, fun a h z => h (x.h.free z), fun a h => .inl (by rw [x.m] at h; exact h), x.k⟩
theorem nn {o : Option HO} {u : HO} (h : o = some u) : o ≠ none := by rw [h]; exact fun z => nomatch z
theorem Px.wd {st : S} (x : Px F H F' H') (w : Wd K dk F H st) : Wd K dk F' H' st :=
  ⟨x.s, x.h _ _ w.d1, x.h _ _ w.d2, ⟨x.n _ w.f1.1 (nn w.d1), by rw [x.m]; exact w.f1.2⟩, ⟨x.n _ w.f2.1 (nn w.d2), by rw [x.m]; exact w.f2.2⟩, w.ne, by rw [x.m]; exact w.ml, by rw [x.m]; exact w.nd,
    fun n a o h1 h2 => by
      rw [x.m] at h1
      obtain ⟨q1, q2⟩ := w.ob n a o h1 h2
      exact ⟨x.n _ q1 q2.some, q2.keep (fun o e => x.h _ _ e) x.f⟩⟩
theorem Px.trans {F2 : Fz} {H2 : Hp} (x : Px F H F' H') (y : Px F' H' F2 H2) : Px F H F2 H2 :=
  ⟨x.h.trans y.h, x.f.trans y.f, fun a h1 h2 => y.n a (x.n a h1 h2) (fun z => h2 (x.h.free z)), y.s, y.m.trans x.m, fun a o h f => x.k a o (y.k a o h f) f⟩
theorem updK {p : Addr} {o : HO} (nf : ¬ Fro o) (a : Addr) (u : HO) (h : upd H p o a = some u) (f : Fro u) : H a = some u := by
  by_cases na : a = p
  · subst na; rw [upd_same] at h; cases h; exact absurd f nf
  · rw [upd_ne na] at h; exact h
/-- a new frozen thing -/
theorem Px.new {p : Addr} {o : HO} (s : Sb F H) (hp : H p = none) (nf : ¬ Fro o := by rintro ⟨_, _, z⟩; cases z) : Px F H (F.up p o) (upd H p o) := by
  have fp : F p = none := s.free hp
  refine ⟨Lh.new hp, Le.new fp, fun a h1 h2 => ?_, fun a u e => ?_, rfl, updK nf⟩
  · have na : a ≠ p := fun z => h2 (z ▸ hp)
    rw [Fz.up_ne na]; exact h1
  · by_cases na : a = p
    · subst na
      rw [Fz.up_same] at e
      rw [upd_same]; exact .inl e
    · rw [Fz.up_ne na] at e; rw [upd_ne na]; exact s a u e
/-- a new thing that is not frozen -/
theorem Px.lay {p : Addr} {o : HO} (s : Sb F H) (hp : H p = none) (nf : ¬ Fro o := by rintro ⟨_, _, z⟩; cases z) : Px F H F (upd H p o) :=
  ⟨Lh.new hp, Le.refl F, fun _ h _ => h, s.lh (Lh.new hp), rfl, updK nf⟩
/-- data as it stands in this heap, whoever holds it -/
inductive Rw (K : Fg) (dk : Dk) (F : Fz) (H : Hp) : V → D → Prop
  | rp {v : V} {d : D} : Rp K dk F v d → Rw K dk F H v d
  | lst {p : Addr} {vs : List V} {ds : List D} : H p = some (.lst vs) → Rps K dk F vs ds → Rw K dk F H (.ref p) (.lst ds)
  | dic {p : Addr} {ks : List Key} {vs : List V} {ds : List D} : Rd H p (.dK (ks.zip vs)) → ks.length = vs.length → Rps K dk F vs ds → Rw K dk F H (.ref p) (.dic ks ds)
/-- data that stays while other things are worked out: frozen, or a name's own -/
inductive Ry (K : Fg) (dk : Dk) (F : Fz) (H : Hp) : V → D → Prop
  | rp {v : V} {d : D} : Rp K dk F v d → Ry K dk F H v d
  | lst {p : Addr} {vs : List V} {ds : List D} : H p = some (.lst vs) → p ≠ dk.1 → p ≠ dk.2 → p ∉ F.mu → Rps K dk F vs ds → Ry K dk F H (.ref p) (.lst ds)
  | dic {p : Addr} {ks : List Key} {vs : List V} {ds : List D} : Rd H p (.dK (ks.zip vs)) → p ≠ dk.1 → p ≠ dk.2 → p ∉ F.mu → ks.length = vs.length → Rps K dk F vs ds → Ry K dk F H (.ref p) (.dic ks ds)
theorem Ext.nmu (x : Ext dk F H F' H') {a : Addr} (h : a ∉ F.mu) (h2 : H a ≠ none) : a ∉ F'.mu := fun z => by
  rcases x.u a z with q | q
  · exact h q
  · exact h2 q
theorem rdn {a : Addr} {u : HO} (h : Rd H a u) : H a ≠ none := by
  rcases h with h | ⟨o, h⟩ <;> exact nn h
theorem Ext.rd (x : Ext dk F H F' H') {a : Addr} {u : HO} (h : Rd H a u) (n1 : a ≠ dk.1) (n2 : a ≠ dk.2) (n3 : a ∉ F.mu) : Rd H' a u := by
  rcases h with h | ⟨o, h⟩
  · exact .inl (x.h _ _ h n1 n2 (.inl n3))
  · exact .inr ⟨o, x.h _ _ h n1 n2 (.inl n3)⟩
theorem Ry.ext {v : V} {d : D} (r : Ry K dk F H v d) (x : Ext dk F H F' H') : Ry K dk F' H' v d := by
  cases r with
  | rp r => exact .rp (r.mono x.f)
  | lst h n1 n2 n3 r => exact .lst (x.h _ _ h n1 n2 (.inl n3)) n1 n2 (x.nmu n3 (nn h)) (r.mono x.f)
  | dic h n1 n2 n3 l r => exact .dic (x.rd h n1 n2 n3) n1 n2 (x.nmu n3 (rdn h)) l (r.mono x.f)
theorem Ry.w {v : V} {d : D} (r : Ry K dk F H v d) : Rw K dk F H v d := by
  cases r with
  | rp r => exact .rp r
  | lst h n1 n2 n3 r => exact .lst h r
  | dic h n1 n2 n3 l r => exact .dic h l r
inductive Rws (K : Fg) (dk : Dk) (F : Fz) (H : Hp) : List V → List D → Prop
  | nil : Rws K dk F H [] []
  | cons {v : V} {vs : List V} {d : D} {ds : List D} : Rw K dk F H v d → Rws K dk F H vs ds → Rws K dk F H (v :: vs) (d :: ds)
inductive Rys (K : Fg) (dk : Dk) (F : Fz) (H : Hp) : List V → List D → Prop
  | nil : Rys K dk F H [] []
  | cons {v : V} {vs : List V} {d : D} {ds : List D} : Ry K dk F H v d → Rys K dk F H vs ds → Rys K dk F H (v :: vs) (d :: ds)
theorem Rys.ext (x : Ext dk F H F' H') : ∀ {vs : List V} {ds : List D}, Rys K dk F H vs ds → Rys K dk F' H' vs ds
  | _, _, .nil => .nil
  | _, _, .cons a b => .cons (a.ext x) (Rys.ext x b)
/-- what a thing of the store is at this time -/
noncomputable def dr (st : S) : D → D
  | .ref n => match st.ob[n]? with
    | some (.lst ds) => .lst ds
    | some (.dic _ ks ds) => .dic ks ds
    | _ => .ref n
  | d => d
theorem Ry.dr {v : V} {d : D} {st : S} (r : Ry K dk F H v d) (w : Wd K dk F H st) : Rw K dk F H v (dr st d) := by
  cases d with
  | ref n =>
    cases r with
    | rp r =>
      cases r with
      | ref h =>
        unfold MD.dr
        dsimp only
        split
        · rename_i ho
          obtain ⟨_, q⟩ := w.ob n _ _ h ho
          cases q with
          | lst h r => exact .lst h r
        · rename_i ho
          obtain ⟨_, q⟩ := w.ob n _ _ h ho
          cases q with
          | dic h l r => exact .dic (.inl h) l r
          | lck h l r => exact .dic (.inr ⟨_, h⟩) l r
        · exact .rp (.ref h)
  | _ => exact r.w
theorem Rys.dr {st : S} (w : Wd K dk F H st) : ∀ {vs : List V} {ds : List D}, Rys K dk F H vs ds → Rws K dk F H vs (ds.map (dr st))
  | _, _, .nil => .nil
  | _, _, .cons a b => .cons (a.dr w) (Rys.dr w b)
/-- a list in H, whoever owns it -/
theorem Rw.l {v : V} {ds : List D} (s : Sb F H) (r : Rw K dk F H v (.lst ds)) : ∃ p vs, v = .ref p ∧ H p = some (.lst vs) ∧ Rps K dk F vs ds := by
  cases r with
  | rp r => cases r with
    | lst h r => exact ⟨_, _, rfl, s.lst h, r⟩
  | lst h r => exact ⟨_, _, rfl, h, r⟩
theorem Rw.d {v : V} {ks : List Key} {ds : List D} (s : Sb F H) (r : Rw K dk F H v (.dic ks ds)) : ∃ p vs, v = .ref p ∧ Rd H p (.dK (ks.zip vs)) ∧ ks.length = vs.length ∧ Rps K dk F vs ds := by
  cases r with
  | rp r => cases r with
    | dic h l r => exact ⟨_, _, rfl, s.dK h, l, r⟩
  | dic h l r => exact ⟨_, _, rfl, h, l, r⟩
theorem Rw.tp {v : V} {ds : List D} (r : Rw K dk F H v (.tup ds)) : Rp K dk F v (.tup ds) := by
  cases r with
  | rp r => exact r
theorem Rw.tup {v : V} {ds : List D} (s : Sb F H) (r : Rw K dk F H v (.tup ds)) : ∃ p vs, v = .ref p ∧ SqT K H p vs ∧ Rps K dk F vs ds := by
  cases r.tp with
  | tup h r => exact ⟨_, _, rfl, s.sqT h, r⟩
theorem Rw.int {v : V} {i : Int} (r : Rw K dk F H v (.int i)) : v = .int i := by
  cases r with
  | rp r => cases r; rfl
theorem Rw.str {v : V} {x : Str} (r : Rw K dk F H v (.str x)) : v = .str x := by
  cases r with
  | rp r => cases r; rfl
theorem Rw.bl {v : V} {b : Bool} (r : Rw K dk F H v (.bl b)) : v = .bl b := by
  cases r with
  | rp r => cases r; rfl
theorem Rw.non {v : V} (r : Rw K dk F H v .non) : v = .non := by
  cases r with
  | rp r => cases r; rfl
theorem Rw.isNon {v : V} {d : D} (r : Rw K dk F H v d) : decide (v = .non) = (match d with | .non => true | _ => false) := by
  cases r with
  | rp r => cases r <;> rfl
  | lst _ _ => rfl
  | dic _ _ _ => rfl
noncomputable def SlOk [WW] (K : Fg) (dk : Dk) (F : Fz) (H H0 : Hp) (v : Option V) : Sl → Prop
  | .un => True
  | .val d => ∃ x, v = some x ∧ Rp K dk F x d
  | .cap none => v = WW.cv.head? ∧ ∀ c q, WW.cd = some (c, q) → F c = some (LamX.CodeO c q)
  | .cap (some ds) => Rps K dk F WW.cv.tail ds
  | .own w => ∃ p vs, v = some (.ref p) ∧ w.1.At H p vs ∧ F.out p ∧ H0 p = none ∧ p ≠ dk.1 ∧ p ≠ dk.2 ∧ Rps K dk F vs w.2
structure Good [WW] (K : Fg) (dk : Dk) (H0 : Hp) (F0 F : Fz) (σ : L2.St) (H : Hp) (env : Sg) (st : S) : Prop where
  wd : Wd K dk F H st
  ext : Ext dk F0 H0 F H
  len : σ.length = env.length
  sl : ∀ (i : Nat) (s : Sl), env[i]? = some s → SlOk K dk F H H0 (σ[i]?).join s
  dis : ∀ (i j : Nat) (ds es : Own) (p : Addr), i ≠ j → env[i]? = some (.own ds) → env[j]? = some (.own es) → σ[i]? = some (some (.ref p)) → σ[j]? ≠ some (some (.ref p))
theorem Good.step {H0 : Hp} {F0 : Fz} {σ : L2.St} {env : Sg} {st st' : S} (g : Good K dk H0 F0 F σ H env st) (x : Ext dk F H F' H') (w : Wd K dk F' H' st') : Good K dk H0 F0 F' σ H' env st' := by
  refine ⟨w, g.ext.trans x, g.len, fun i s e => ?_, g.dis⟩
  have q := g.sl i s e
  cases s with
  | un => trivial
  | val d => obtain ⟨v, h1, h2⟩ := q; exact ⟨v, h1, h2.mono x.f⟩
  | cap o =>
    cases o with
    | none => exact ⟨q.1, fun c y hc => x.f.h _ _ (q.2 c y hc)⟩
    | some ds => exact Rps.mono x.f q
  | own ds =>
    obtain ⟨p, vs, h1, h2, h3, h4, h5, h6, h7⟩ := q
    exact ⟨p, vs, h1, h2.keep fun o e => x.h _ _ e h5 h6 (.inl h3.2), x.out h3 (by obtain ⟨o, ho⟩ := h2.some; exact nn ho), h4, h5, h6, h7.mono x.f⟩
theorem Good.px {H0 : Hp} {F0 : Fz} {σ : L2.St} {env : Sg} {st : S} (g : Good K dk H0 F0 F σ H env st) (x : Px F H F' H') : Good K dk H0 F0 F' σ H' env st := g.step x.ext (x.wd g.wd)
end
end MD
set_option Elab.async false
set_option linter.all false
set_option maxRecDepth 100000
set_option maxHeartbeats 1000000
namespace MD
open PySem L2
variable {ww : WW}
noncomputable abbrev ME := Sg → S → Option (D × S)
noncomputable abbrev MT := Sg → S → Option (Bool × S)
noncomputable abbrev MA := Sg → S → Option (List D × S)
section
variable (K : Fg)
noncomputable def Im [WW] (te : TE) (f : ME) : Prop := ∀ (dk : Dk) (H0 : Hp) (F0 F : Fz) (σ : L2.St) (H : Hp) (env : Sg) (st : S) (d : D) (st' : S), Good K dk H0 F0 F σ H env st → f env st = some (d, st') →
  ∀ Q : VK, (∀ v F' H', Ext dk F H F' H' → Good K dk H0 F0 F' σ H' env st' → Rp K dk F' v d → Q v H') → te σ H Q
noncomputable def ImW [WW] (te : TE) (f : ME) : Prop := ∀ (dk : Dk) (H0 : Hp) (F0 F : Fz) (σ : L2.St) (H : Hp) (env : Sg) (st : S) (d : D) (st' : S), Good K dk H0 F0 F σ H env st → f env st = some (d, st') →
  ∀ Q : VK, (∀ v F' H', Ext dk F H F' H' → Good K dk H0 F0 F' σ H' env st' → Ry K dk F' H' v d → Q v H') → te σ H Q
noncomputable def ImF [WW] (te : TE) (f : MA) : Prop := ∀ (dk : Dk) (H0 : Hp) (F0 F : Fz) (σ : L2.St) (H : Hp) (env : Sg) (st : S) (ds : List D) (st' : S), Good K dk H0 F0 F σ H env st → f env st = some (ds, st') →
  ∀ Q : VK, (∀ p vs F' H', Ext dk F H F' H' → Good K dk H0 F0 F' σ H' env st' → H p = none → F'.out p → H' p = some (.lst vs) → Rps K dk F' vs ds → Q (.ref p) H') → te σ H Q
noncomputable def ImT [WW] (tt : TT) (f : MT) : Prop := ∀ (dk : Dk) (H0 : Hp) (F0 F : Fz) (σ : L2.St) (H : Hp) (env : Sg) (st : S) (b : Bool) (st' : S), Good K dk H0 F0 F σ H env st → f env st = some (b, st') →
  ∀ Q : Bool → Hp → Prop, (∀ F' H', Ext dk F H F' H' → Good K dk H0 F0 F' σ H' env st' → Q b H') → tt σ H Q
noncomputable def ImA [WW] (ta : TA) (f : MA) : Prop := ∀ (dk : Dk) (H0 : Hp) (F0 F : Fz) (σ : L2.St) (H : Hp) (env : Sg) (st : S) (ds : List D) (st' : S), Good K dk H0 F0 F σ H env st → f env st = some (ds, st') →
  ∀ Q : List V → Hp → Prop, (∀ vs F' H', Ext dk F H F' H' → Good K dk H0 F0 F' σ H' env st' → Rps K dk F' vs ds → Q vs H') → ta σ H Q
noncomputable def ImAW [WW] (ta : TA) (f : MA) : Prop := ∀ (dk : Dk) (H0 : Hp) (F0 F : Fz) (σ : L2.St) (H : Hp) (env : Sg) (st : S) (ds : List D) (st' : S), Good K dk H0 F0 F σ H env st → f env st = some (ds, st') →
  ∀ Q : List V → Hp → Prop, (∀ vs F' H', Ext dk F H F' H' → Good K dk H0 F0 F' σ H' env st' → Rys K dk F' H' vs ds → Q vs H') → ta σ H Q
end
theorem bnd {α β : Type} {o : Option α} {f : α → Option β} {b : β} (h : o.bind f = some b) : ∃ a, o = some a ∧ f a = some b := by
  cases o with
  | none => cases h
  | some a => exact ⟨a, rfl, h⟩
theorem mpd {α β : Type} {o : Option α} {f : α → β} {b : β} (h : o.map f = some b) : ∃ a, o = some a ∧ f a = b := by
  cases o with
  | none => cases h
  | some a => exact ⟨a, rfl, Option.some.inj h⟩
section
variable {K : Fg} {dk : Dk} {F F' F0 : Fz} {H H' H0 : Hp} {σ : L2.St} {env : Sg} {st : S}
theorem Good.fresh0 (g : Good K dk H0 F0 F σ H env st) {p : Addr} (hp : H p = none) : H0 p = none := by
  cases q : H0 p with
  | none => rfl
  | some o => exact absurd hp (g.ext.m p (by rw [q]; exact fun z => nomatch z))
theorem Good.nedk (g : Good K dk H0 F0 F σ H env st) {p : Addr} (hp : H p = none) : p ≠ dk.1 ∧ p ≠ dk.2 :=
  ⟨fun z => (by rw [z, g.wd.d1] at hp; cases hp), fun z => (by rw [z, g.wd.d2] at hp; cases hp)⟩
theorem join_eq {x : Option (Option V)} {v : V} (h : x.join = some v) : x = some (some v) := by
  cases x with
  | none => cases h
  | some y => cases y with
    | none => cases h
    | some z => rw [show z = v from Option.some.inj h]
theorem Good.noown (g : Good K dk H0 F0 F σ H env st) {p : Addr} (hp : H p = none) : ∀ (i : Nat) (ds : Own), env[i]? = some (.own ds) → σ[i]? ≠ some (some (.ref p)) := fun i ds e z => by
  obtain ⟨q, vs, h1, h2, _⟩ := g.sl i _ e
  have h3 := join_eq h1
  rw [z] at h3
  cases h3
  obtain ⟨o, ho⟩ := h2.some
  rw [hp] at ho; cases ho
/-- what is nobody's own may be frozen -/
theorem Wd.freeze {p : Addr} {o : HO} (w : Wd K dk F H st) (hp : H p = some o) (fp : F.out p) (n1 : p ≠ dk.1) (n2 : p ≠ dk.2) : Wd K dk (F.up p o) H st := by
  have le : Le F (F.up p o) := Le.new fp.1
  refine ⟨fun a u e => ?_, w.d1, w.d2, ⟨by rw [Fz.up_ne n1.symm]; exact w.f1.1, w.f1.2⟩, ⟨by rw [Fz.up_ne n2.symm]; exact w.f2.1, w.f2.2⟩, w.ne, w.ml, w.nd, fun n a u h1 h2 => ?_⟩
  · by_cases na : a = p
    · subst na; rw [Fz.up_same] at e; rw [← e]; exact .inl hp
    · rw [Fz.up_ne na] at e; exact w.sub a u e
  · obtain ⟨q1, q2⟩ := w.ob n a u h1 h2
    have na : a ≠ p := fun z => fp.2 (z ▸ List.mem_of_getElem? h1)
    exact ⟨by rw [Fz.up_ne na]; exact q1, q2.keep (fun _ e => e) le⟩
theorem Good.freeze {p : Addr} {o : HO} (g : Good K dk H0 F0 F σ H env st) (hp : H p = some o) (fp : F.out p) (h0 : H0 p = none) (n1 : p ≠ dk.1) (n2 : p ≠ dk.2)
    (no : ∀ (i : Nat) (ds : Own), env[i]? = some (.own ds) → σ[i]? ≠ some (some (.ref p))) : Good K dk H0 F0 (F.up p o) σ H env st := by
  have le : Le F (F.up p o) := Le.new fp.1
  refine ⟨g.wd.freeze hp fp n1 n2, ⟨g.ext.h, g.ext.f.trans le, fun a h1 h2 => ?_, g.ext.m, g.ext.u, g.ext.k⟩, g.len, fun i s e => ?_, g.dis⟩
  · have na : a ≠ p := fun z => h2 (z ▸ h0)
    rw [Fz.up_ne na]; exact g.ext.n a h1 h2
  · have q := g.sl i s e
    cases s with
    | un => trivial
    | val d => obtain ⟨v, h1, h2⟩ := q; exact ⟨v, h1, h2.mono le⟩
    | cap o =>
      cases o with
      | none => exact ⟨q.1, fun c y hc => le.h _ _ (q.2 c y hc)⟩
      | some ds => exact Rps.mono le q
    | own ds =>
      obtain ⟨r, vs, h1, h2, h3, h4, h5, h6, h7⟩ := q
      have nr : r ≠ p := fun z => no i ds e (by rw [← z]; exact join_eq h1)
      exact ⟨r, vs, h1, h2, ⟨by rw [Fz.up_ne nr]; exact h3.1, h3.2⟩, h4, h5, h6, h7.mono le⟩
theorem Ext.freeze {p : Addr} {o : HO} (x : Ext dk F H F' H') (hp : H p = none) (fp : F'.out p) : Ext dk F H (F'.up p o) H' :=
  ⟨x.h, x.f.trans (Le.new fp.1), fun a h1 h2 => by
    have na : a ≠ p := fun z => h2 (z ▸ hp)
    rw [Fz.up_ne na]; exact x.n a h1 h2, x.m, x.u, x.k⟩
theorem Im.w {te : TE} {f : ME} (h : Im K te f) : ImW K te f := fun dk H0 F0 F σ H env st d st' g e Q q =>
  h dk H0 F0 F σ H env st d st' g e Q fun v F' H' x g' r => q v F' H' x g' (.rp r)
noncomputable def frz (f : MA) : ME := fun env st => (f env st).map fun p => (.lst p.1, p.2)
theorem ImF.im {te : TE} {f : MA} (h : ImF K te f) : Im K te (frz f) := fun dk H0 F0 F σ H env st d st' g e Q q => by
  obtain ⟨⟨ds, s1⟩, h1, h2⟩ := mpd e
  cases h2
  refine h dk H0 F0 F σ H env st ds s1 g h1 Q fun p vs F' H' x g' hp fp hl r => ?_
  have nd := g.nedk hp
  have le : Le F' (Fz.up F' p (.lst vs)) := Le.new fp.1
  exact q (.ref p) (Fz.up F' p (.lst vs)) H' (x.freeze hp fp) (g'.freeze hl fp (g.fresh0 hp) nd.1 nd.2 (g.noown hp)) (.lst Fz.up_same (r.mono le))
theorem ImF.w {te : TE} {f : MA} (h : ImF K te f) : ImW K te (frz f) := h.im.w
noncomputable def rd (i : Nat) : ME := fun env st => match env[i]? with
  | some (.val d) => some (d, st)
  | _ => none
noncomputable def rdW (i : Nat) : ME := fun env st => match env[i]? with
  | some (.val d) => some (d, st)
  | some (.own (.lst, ds)) => some (.lst ds, st)
  | some (.own (.dic ks, ds)) => some (.dic ks ds, st)
  | _ => none
theorem im_var (i : Nat) : Im K (tVar i) (rd i) := fun dk H0 F0 F σ H env st d st' g e Q q => by
  unfold rd at e
  split at e
  · rename_i d' he
    cases e
    obtain ⟨v, h1, h2⟩ := g.sl i _ he
    exact ⟨v, join_eq h1, q v F H (Ext.refl F H) g h2⟩
  · cases e
theorem im_own (i : Nat) : ImW K (tVar i) (rdW i) := fun dk H0 F0 F σ H env st d st' g e Q q => by
  unfold rdW at e
  split at e
  · rename_i d' he
    cases e
    obtain ⟨v, h1, h2⟩ := g.sl i _ he
    exact ⟨v, join_eq h1, q v F H (Ext.refl F H) g (.rp h2)⟩
  · rename_i ds he
    cases e
    obtain ⟨p, vs, h1, h2, h3, h4, h5, h6, h7⟩ := g.sl i _ he
    exact ⟨.ref p, join_eq h1, q (.ref p) F H (Ext.refl F H) g (.lst h2 h5 h6 h3.2 h7)⟩
  · rename_i ks ds he
    cases e
    obtain ⟨p, vs, h1, h2, h3, h4, h5, h6, h7⟩ := g.sl i _ he
    exact ⟨.ref p, join_eq h1, q (.ref p) F H (Ext.refl F H) g (.dic (.inl h2.1) h5 h6 h3.2 h2.2 h7)⟩
  · cases e
noncomputable def cst (d : D) : ME := fun _ st => some (d, st)
/-- a value that stands for itself in every heap -/
noncomputable def Rc (K : Fg) (v : V) (d : D) : Prop := ∀ dk F, Rp K dk F v d
theorem im_c {v : V} {d : D} (h : Rc K v d) : Im K (tC v) (cst d) := fun dk H0 F0 F σ H env st d' st' g e Q q => by
  cases e
  exact q v F H (Ext.refl F H) g (h dk F)
theorem im_int {i : Int} : Im K (tC (.int i)) (cst (.int i)) := im_c fun _ _ => .int i
theorem im_str {i : Str} : Im K (tC (.str i)) (cst (.str i)) := im_c fun _ _ => .str i
theorem im_bl {i : Bool} : Im K (tC (.bl i)) (cst (.bl i)) := im_c fun _ _ => .bl i
theorem im_non : Im K (tC .non) (cst .non) := im_c fun _ _ => .non
noncomputable def RO [WW] (K : Fg) (r : R2) (f : D → D → Option D) : Prop := ∀ (dk : Dk) (F : Fz) (H : Hp) (st : S) (x y : V) (d e z : D), Wd K dk F H st → Rw K dk F H x d → Rw K dk F H y e → f d e = some z →
  ∀ Q : VK, (∀ v F' H', Px F H F' H' → Rp K dk F' v z → Q v H') → r x y H Q
noncomputable def ROF [WW] (K : Fg) (r : R2) (f : D → D → Option (List D)) : Prop := ∀ (dk : Dk) (F : Fz) (H : Hp) (st : S) (x y : V) (d e : D) (z : List D), Wd K dk F H st → Rw K dk F H x d → Rw K dk F H y e → f d e = some z →
  ∀ Q : VK, (∀ p vs, H p = none → Rps K dk F vs z → Q (.ref p) (upd H p (.lst vs))) → r x y H Q
noncomputable def opM (f : D → D → Option D) (fa fb : ME) : ME := fun env st => (fa env st).bind fun p => (fb env p.2).bind fun q => (f (dr q.2 p.1) (dr q.2 q.1)).map fun z => (z, q.2)
noncomputable def opF (f : D → D → Option (List D)) (fa fb : ME) : MA := fun env st => (fa env st).bind fun p => (fb env p.2).bind fun q => (f (dr q.2 p.1) (dr q.2 q.1)).map fun z => (z, q.2)
theorem im_op {r : R2} {f : D → D → Option D} {ta tb : TE} {fa fb : ME} (hr : RO K r f) (ha : ImW K ta fa) (hb : ImW K tb fb) : Im K (tOp r ta tb) (opM f fa fb) := fun dk H0 F0 F σ H env st d st' g e Q q => by
  obtain ⟨⟨x, s1⟩, h1, e⟩ := bnd e
  obtain ⟨⟨y, s2⟩, h2, e⟩ := bnd e
  obtain ⟨z, h3, e⟩ := mpd e
  cases e
  refine ha dk H0 F0 F σ H env st x s1 g h1 _ fun v F1 H1 x1 g1 r1 => ?_
  refine hb dk H0 F0 F1 σ H1 env s1 y s2 g1 h2 _ fun u F2 H2 x2 g2 r2 => ?_
  exact hr dk F2 H2 s2 v u _ _ d g2.wd ((r1.ext x2).dr g2.wd) (r2.dr g2.wd) h3 Q fun w F3 H3 px r3 => q w F3 H3 ((x1.trans x2).trans px.ext) (g2.px px) r3
theorem RO.or {r r' : R2} {f f' : D → D → Option D} (h : RO K r f) (h' : RO K r' f') : RO K (fun x y H Q => r x y H Q ∨ r' x y H Q) (fun d e => (f d e).orElse fun _ => f' d e) := by
  intro dk F H st x y d e z w rx ry hz Q q
  replace hz : ((f d e).orElse fun _ => f' d e) = some z := hz
  cases hf : f d e with
  | some y' =>
    rw [hf] at hz
    have : some y' = some z := hz
    cases this
    exact .inl (h dk F H st x y d e z w rx ry hf Q q)
  | none =>
    rw [hf] at hz
    exact .inr (h' dk F H st x y d e z w rx ry hz Q q)
theorem ROF.ro {r : R2} {f : D → D → Option (List D)} (h : ROF K r f) : RO K r (fun d e => (f d e).map D.lst) := by
  intro dk F H st x y d e z w rx ry hz Q q
  obtain ⟨ds, h1, h2⟩ := mpd hz
  subst h2
  refine h dk F H st x y d e ds w rx ry h1 Q fun p vs hp r => ?_
  have px : Px F H (Fz.up F p (.lst vs)) (upd H p (.lst vs)) := Px.new w.sub hp
  exact q (.ref p) _ _ px (.lst Fz.up_same (r.mono px.f))
noncomputable def iI (g : Int → Int → D) : D → D → Option D
  | .int i, .int j => some (g i j)
  | _, _ => none
noncomputable def iIC (C : Int → Int → Prop) [∀ i j, Decidable (C i j)] (g : Int → Int → D) : D → D → Option D
  | .int i, .int j => if C i j then some (g i j) else none
  | _, _ => none
theorem ro_I0 {g : Int → Int → V} {g' : Int → Int → D} (h : ∀ i j, Rc K (g i j) (g' i j)) : RO K (rI0 g) (iI g') := by
  intro dk F H st x y d e z w rx ry hz Q q
  unfold iI at hz
  split at hz
  · rename_i i j
    cases hz
    cases rx.int
    cases ry.int
    exact ⟨i, j, rfl, rfl, q _ F H (Px.refl w.sub) (h i j dk F)⟩
  · cases hz
theorem ro_I {C : Int → Int → Prop} [∀ i j, Decidable (C i j)] {g : Int → Int → V} {g' : Int → Int → D} (h : ∀ i j, Rc K (g i j) (g' i j)) : RO K (rI C g) (iIC C g') := by
  intro dk F H st x y d e z w rx ry hz Q q
  unfold iIC at hz
  split at hz
  · rename_i i j
    split at hz
    · rename_i hc
      cases hz
      cases rx.int
      cases ry.int
      exact ⟨i, j, rfl, rfl, hc, q _ F H (Px.refl w.sub) (h i j dk F)⟩
    · cases hz
  · cases hz
theorem rc_int (i : Int) : Rc K (.int i) (.int i) := fun _ _ => .int i
theorem rc_bl (i : Bool) : Rc K (.bl i) (.bl i) := fun _ _ => .bl i
noncomputable instance : ∀ i j, Decidable (CMul i j) := fun i j => by unfold CMul; exact inferInstance
noncomputable instance : ∀ i j, Decidable (CDiv i j) := fun i j => by unfold CDiv; exact inferInstance
noncomputable instance : ∀ i j, Decidable (CPow i j) := fun i j => by unfold CPow; exact inferInstance
noncomputable def strCat : D → D → Option D
  | .str i, .str j => if i.length + j.length ≤ sizeLine then some (.str (i ++ j)) else none
  | _, _ => none
noncomputable def tupCat : D → D → Option D
  | .tup i, .tup j => if i.length + j.length ≤ sizeLine then some (.tup (i ++ j)) else none
  | _, _ => none
noncomputable def lstCat : D → D → Option (List D)
  | .lst i, .lst j => if i.length + j.length ≤ sizeLine then some (i ++ j) else none
  | _, _ => none
theorem ro_strCat : RO K (fun x y H Q => ∃ i j, x = .str i ∧ y = .str j ∧ i.length + j.length ≤ sizeLine ∧ Q (.str (i ++ j)) H) strCat := by
  intro dk F H st x y d e z w rx ry hz Q q
  unfold strCat at hz
  split at hz
  · rename_i i j
    split at hz
    · rename_i hc
      cases hz
      exact ⟨i, j, rx.str, ry.str, hc, q _ F H (Px.refl w.sub) (.str _)⟩
    · cases hz
  · cases hz
theorem ro_tupCat : RO K (rCatA K) tupCat := by
  intro dk F H st x y d e z w rx ry hz Q q
  unfold tupCat at hz
  split at hz
  · rename_i i j
    split at hz
    · rename_i hc
      cases hz
      obtain ⟨p, vs, e1, h1, r1⟩ := rx.tup w.sub
      obtain ⟨p2, vs2, e2, h2, r2⟩ := ry.tup w.sub
      refine ⟨p, p2, vs, vs2, e1, e2, h1, h2, by rw [r1.length, r2.length]; exact hc, fun z => ?_, fun _ z => ?_, fun _ _ a ha => ?_⟩
      · subst z
        cases r1
        subst e2
        exact q _ F H (Px.refl w.sub) ry.tp
      · subst z
        cases r2
        subst e1
        rw [List.append_nil] at q
        exact q _ F H (Px.refl w.sub) rx.tp
      · have px : Px F H (Fz.up F a (.tup (vs ++ vs2))) (upd H a (.tup (vs ++ vs2))) := Px.new w.sub ha
        exact q _ _ _ px (.tup (SqT.of Fz.up_same) ((r1.append r2).mono px.f))
    · cases hz
  · cases hz
theorem rof_lstCat : ROF K rCat lstCat := by
  intro dk F H st x y d e z w rx ry hz Q q
  unfold lstCat at hz
  split at hz
  · rename_i i j
    split at hz
    · rename_i hc
      cases hz
      obtain ⟨p, vs, e1, h1, r1⟩ := rx.l w.sub
      obtain ⟨p2, vs2, e2, h2, r2⟩ := ry.l w.sub
      exact ⟨p, p2, vs, vs2, e1, e2, h1, h2, by rw [r1.length, r2.length]; exact hc, fun a ha => q a _ ha (r1.append r2)⟩
    · cases hz
  · cases hz
end
end MD
set_option Elab.async false
set_option linter.all false
set_option maxRecDepth 100000
set_option maxHeartbeats 1000000
namespace MD
open PySem L2
variable {ww : WW}
mutual
noncomputable def D.py : D → PyData
  | .non => .none
  | .bl b => .bool b
  | .int i => .int i
  | .str s => .str s
  | .lst xs => .list (pyAll xs)
  | .tup xs => .tuple (pyAll xs)
  | .deck => .none
  | .dic _ _ => .none
  | .ref _ => .none
noncomputable def pyAll : List D → List PyData
  | [] => []
  | x :: xs => D.py x :: pyAll xs
end
mutual
noncomputable def D.pl : D → Bool
  | .lst xs => plAll xs
  | .tup xs => plAll xs
  | .deck => false
  | .dic _ _ => false
  | .ref _ => false
  | _ => true
noncomputable def plAll : List D → Bool
  | [] => true
  | x :: xs => D.pl x && plAll xs
end
mutual
theorem Rp.dp {K : Fg} {dk : Dk} {F : Fz} {H : Hp} (le : Sb F H) : ∀ {v : V} {d : D}, Rp K dk F v d → d.pl = true → Dp K H v d.py
  | _, _, .non, _ => .non
  | _, _, .bl b, _ => .bl b
  | _, _, .int i, _ => .int i
  | _, _, .str x, _ => .str x
  | _, _, .lst h r, p => .lst (SqL.of (le.lst h)) (Rps.dp le r (by simpa [D.pl] using p))
  | _, _, .tup h r, p => .tup (le.sqT h) (Rps.dp le r (by simpa [D.pl] using p))
  | _, _, .deck, p => by simp [D.pl] at p
  | _, _, .dic _ _ _, p => by simp [D.pl] at p
  | _, _, .ref _, p => by simp [D.pl] at p
theorem Rps.dp {K : Fg} {dk : Dk} {F : Fz} {H : Hp} (le : Sb F H) : ∀ {vs : List V} {ds : List D}, Rps K dk F vs ds → plAll ds = true → DpAll K H vs (pyAll ds)
  | _, _, .nil, _ => .nil
  | _, _, .cons a b, p => by
    rw [plAll, Bool.and_eq_true] at p
    exact .cons (Rp.dp le a p.1) (Rps.dp le b p.2)
end
section
variable {K : Fg} {dk : Dk} {F F' F0 : Fz} {H H' H0 : Hp} {σ : L2.St} {env : Sg} {st : S}
theorem Rw.dp (le : Sb F H) {v : V} {d : D} (r : Rw K dk F H v d) (p : d.pl = true) : Dp K H v d.py := by
  cases r with
  | rp r => exact r.dp le p
  | lst h r => exact .lst (SqL.of h) (r.dp le (by simpa [D.pl] using p))
  | dic _ _ _ => simp [D.pl] at p
noncomputable def sEq : D → D → Option Bool
  | .non, .non => some true
  | .non, .int _ => some false | .int _, .non => some false
  | .non, .str _ => some false | .str _, .non => some false
  | .int i, .int j => some (decide (i = j))
  | .bl i, .bl j => some (decide (i = j))
  | .str i, .str j => some (decide (i = j))
  | _, _ => none
noncomputable def okD (d : D) : Bool := d.pl && SeqAt.shaped d.py
noncomputable def eqB (d e : D) : Option Bool := match sEq d e with
  | some b => some b
  | none => if okD d && okD e then some (PyData.eqv d.py e.py) else none
noncomputable def eqM (d e : D) : Option D := (eqB d e).map D.bl
noncomputable def neM (d e : D) : Option D := (eqB d e).map fun b => D.bl (!b)
theorem dec_congr {p q : Prop} [Decidable p] [Decidable q] (h : p ↔ q) : decide p = decide q := by
  by_cases hp : p
  · rw [decide_eq_true hp, decide_eq_true (h.mp hp)]
  · rw [decide_eq_false hp, decide_eq_false fun z => hp (h.mpr z)]
theorem sEq_ok {x y : V} {d e : D} {b : Bool} (rx : Rw K dk F H x d) (ry : Rw K dk F H y e) (h : sEq d e = some b) : scal x y = true ∧ decide (x = y) = b := by
  unfold sEq at h
  split at h <;> cases h
  · cases rx.non; cases ry.non; exact ⟨rfl, rfl⟩
  · cases rx.non; cases ry.int; exact ⟨rfl, rfl⟩
  · cases rx.int; cases ry.non; exact ⟨rfl, rfl⟩
  · cases rx.non; cases ry.str; exact ⟨rfl, rfl⟩
  · cases rx.str; cases ry.non; exact ⟨rfl, rfl⟩
  · cases rx.int; cases ry.int; exact ⟨rfl, dec_congr ⟨fun z => V.int.inj z, fun z => by rw [z]⟩⟩
  · cases rx.bl; cases ry.bl; exact ⟨rfl, dec_congr ⟨fun z => V.bl.inj z, fun z => by rw [z]⟩⟩
  · cases rx.str; cases ry.str; exact ⟨rfl, dec_congr ⟨fun z => V.str.inj z, fun z => by rw [z]⟩⟩
noncomputable def rEqA (K : Fg) : R2 := fun x y H Q => rEq x y H Q ∨ rEqD K x y H Q
noncomputable def rNeA (K : Fg) : R2 := fun x y H Q => rNe x y H Q ∨ rNeD K x y H Q
theorem OpR.or {X : Cx} {f : Value → Value → Sem Value} {r r' : R2} (h : OpR X f r) (h' : OpR X f r') : OpR X f (fun x y H Q => r x y H Q ∨ r' x y H Q) := by
  intro pins s σ H x y v u Q I rx ry q
  rcases q with q | q
  · exact h pins s σ H x y v u Q I rx ry q
  · exact h' pins s σ H x y v u Q I rx ry q
theorem eqB_ok {x y : V} {d e : D} {b : Bool} (le : Sb F H) (rx : Rw K dk F H x d) (ry : Rw K dk F H y e) (h : eqB d e = some b) :
    (scal x y = true ∧ decide (x = y) = b) ∨ ∃ d e, Dp K H x d ∧ Dp K H y e ∧ SeqAt.shaped d = true ∧ SeqAt.shaped e = true ∧ PyData.eqv d e = b := by
  unfold eqB at h
  split at h
  · rename_i b' hb
    cases h
    exact .inl (sEq_ok rx ry hb)
  · split at h
    · rename_i ho
      cases h
      rw [Bool.and_eq_true, okD, okD, Bool.and_eq_true, Bool.and_eq_true] at ho
      exact .inr ⟨d.py, e.py, rx.dp le ho.1.1, ry.dp le ho.2.1, ho.1.2, ho.2.2, rfl⟩
    · cases h
theorem ro_eq : RO K (rEqA K) eqM := by
  intro dk F H st x y d e z w rx ry hz Q q
  obtain ⟨b, hb, rfl⟩ := mpd hz
  have q0 := q (.bl b) F H (Px.refl w.sub) (.bl b)
  rcases eqB_ok w.sub rx ry hb with ⟨h1, h2⟩ | ⟨d', e', h1, h2, h3, h4, h5⟩
  · exact .inl ⟨h1, by rw [h2]; exact q0⟩
  · exact .inr ⟨d', e', h1, h2, h3, h4, by rw [h5]; exact q0⟩
theorem ro_ne : RO K (rNeA K) neM := by
  intro dk F H st x y d e z w rx ry hz Q q
  obtain ⟨b, hb, rfl⟩ := mpd hz
  have q0 := q (.bl (!b)) F H (Px.refl w.sub) (.bl (!b))
  rcases eqB_ok w.sub rx ry hb with ⟨h1, h2⟩ | ⟨d', e', h1, h2, h3, h4, h5⟩
  · exact .inl ⟨h1, by rw [h2]; exact q0⟩
  · exact .inr ⟨d', e', h1, h2, h3, h4, by rw [h5]; exact q0⟩
theorem op_eqA {X : Cx} (hu : X.A.units + 64 < cLine) : OpR X (compareOp .Eq) (rEqA X.K) := OpR.or op_eq (op_eqD hu)
theorem op_neA {X : Cx} (hu : X.A.units + 64 < cLine) : OpR X (compareOp .NotEq) (rNeA X.K) := OpR.or op_ne (op_neD hu)
noncomputable def nonD : D → Bool
  | .non => true
  | _ => false
noncomputable def isM : D → D → Option D
  | d, .non => some (.bl (nonD d))
  | _, _ => none
noncomputable def isNotM : D → D → Option D
  | d, .non => some (.bl (!nonD d))
  | _, _ => none
theorem Rw.isN {v : V} {d : D} (r : Rw K dk F H v d) : decide (v = .non) = nonD d := by
  rw [r.isNon]; cases d <;> rfl
theorem ro_is : RO K (fun x y H Q => y = .non ∧ Q (.bl (decide (x = .non))) H) isM := by
  intro dk F H st x y d e z w rx ry hz Q q
  unfold isM at hz
  split at hz
  · cases hz
    exact ⟨ry.non, by rw [rx.isN]; exact q _ F H (Px.refl w.sub) (.bl _)⟩
  · cases hz
theorem ro_isNot : RO K (fun x y H Q => y = .non ∧ Q (.bl (!decide (x = .non))) H) isNotM := by
  intro dk F H st x y d e z w rx ry hz Q q
  unfold isNotM at hz
  split at hz
  · cases hz
    exact ⟨ry.non, by rw [rx.isN]; exact q _ F H (Px.refl w.sub) (.bl _)⟩
  · cases hz
noncomputable def signOf (a : Str) : Option Nat := match a.cps.toList with
  | [c] => some c
  | _ => none
theorem signOf_eq {a : Str} {c : Nat} (h : signOf a = some c) : a = ⟨#[c]⟩ := by
  unfold signOf at h
  split at h
  · rename_i c' hc
    cases h
    obtain ⟨⟨l⟩⟩ := a
    have : l = [c] := hc
    rw [this]
  · cases h
noncomputable def inSign : D → D → Option D
  | .str a, .str z => (signOf a).map fun c => .bl (decide (c ∈ z.cps.toList))
  | _, _ => none
noncomputable def notInSign : D → D → Option D
  | .str a, .str z => (signOf a).map fun c => .bl (!decide (c ∈ z.cps.toList))
  | _, _ => none
theorem ro_inSign : RO K (fun x y H Q => ∃ (c : Nat) (z : Str), x = .str ⟨#[c]⟩ ∧ y = .str z ∧ Q (.bl (decide (c ∈ z.cps.toList))) H) inSign := by
  intro dk F H st x y d e z w rx ry hz Q q
  unfold inSign at hz
  split at hz
  · obtain ⟨c, hc, rfl⟩ := mpd hz
    exact ⟨c, _, by rw [rx.str, signOf_eq hc], ry.str, q _ F H (Px.refl w.sub) (.bl _)⟩
  · cases hz
noncomputable def flatD : D → Bool
  | .non => true | .bl _ => true | .int _ => true | .str _ => true
  | _ => false
noncomputable def eqFD : D → D → Bool
  | .non, .non => true
  | .bl a, .bl b => a == b
  | .bl a, .int b => (if a then 1 else 0) == b
  | .int a, .bl b => a == (if b then 1 else 0)
  | .int a, .int b => a == b
  | .str a, .str b => a == b
  | _, _ => false
theorem Rp.flat {v : V} {d : D} (r : Rp K dk F v d) (h : flatD d = true) : flatV v = true := by
  cases r <;> first | rfl | cases h
theorem Rp.eqF {v u : V} {d e : D} (r : Rp K dk F v d) (r' : Rp K dk F u e) (h : flatD d = true) (h' : flatD e = true) : eqV v u = eqFD d e := by
  cases r <;> first | (cases r' <;> first | rfl | cases h') | cases h
theorem Rw.flat {v : V} {d : D} (r : Rw K dk F H v d) (h : flatD d = true) : Rp K dk F v d := by
  cases r with
  | rp r => exact r
  | lst _ _ => cases h
  | dic _ _ _ => cases h
noncomputable def inB (x : D) (ys : List D) : Bool := ys.any fun y => eqFD y x
theorem Rps.inV {x : V} {d : D} (r : Rp K dk F x d) (h : flatD d = true) : ∀ {vs : List V} {ds : List D}, Rps K dk F vs ds → ds.all flatD = true → vs.all flatV = true ∧ L2.inV x vs = inB d ds
  | _, _, .nil, _ => ⟨rfl, rfl⟩
  | _, _, .cons a b, p => by
    rw [List.all_cons, Bool.and_eq_true] at p
    obtain ⟨h1, h2⟩ := Rps.inV r h b p.2
    refine ⟨by rw [List.all_cons, a.flat p.1, h1]; rfl, ?_⟩
    unfold L2.inV inB at h2 ⊢
    rw [List.any_cons, List.any_cons, h2, a.eqF r p.1 h]
noncomputable def inSeq (neg : Bool) : D → D → Option D
  | x, .lst ds => if flatD x && ds.all flatD then some (.bl (if neg then !inB x ds else inB x ds)) else none
  | x, .tup ds => if flatD x && ds.all flatD then some (.bl (if neg then !inB x ds else inB x ds)) else none
  | _, _ => none
theorem ro_inSeq (neg : Bool) : RO K (rIn K neg) (inSeq neg) := by
  intro dk F H st x y d e z w rx ry hz Q q
  unfold inSeq at hz
  split at hz
  · split at hz
    · rename_i ho
      cases hz
      rw [Bool.and_eq_true] at ho
      obtain ⟨p, vs, rfl, hl, r⟩ := ry.l w.sub
      have rx' := rx.flat ho.1
      obtain ⟨h1, h2⟩ := r.inV rx' ho.1 ho.2
      exact ⟨p, vs, rfl, .inl (SqL.of hl), rx'.flat ho.1, h1, by rw [h2]; exact q _ F H (Px.refl w.sub) (.bl _)⟩
    · cases hz
  · split at hz
    · rename_i ho
      cases hz
      rw [Bool.and_eq_true] at ho
      obtain ⟨p, vs, rfl, hl, r⟩ := ry.tup w.sub
      have rx' := rx.flat ho.1
      obtain ⟨h1, h2⟩ := r.inV rx' ho.1 ho.2
      exact ⟨p, vs, rfl, .inr hl, rx'.flat ho.1, h1, by rw [h2]; exact q _ F H (Px.refl w.sub) (.bl _)⟩
    · cases hz
  · cases hz
theorem Rps.atI {vs : List V} {ds : List D} {i : Int} {d : D} (r : Rps K dk F vs ds) (h : L2.atI ds i = some d) : ∃ v, L2.atI vs i = some v ∧ Rp K dk F v d := by
  unfold L2.atI at h ⊢
  obtain ⟨j, h1, h2⟩ := bnd h
  obtain ⟨v, h3, h4⟩ := r.get h2
  exact ⟨v, by rw [r.length, h1]; exact h3, h4⟩
noncomputable def ixM : D → D → Option D
  | .lst ds, .int i => L2.atI ds i
  | .tup ds, .int i => L2.atI ds i
  | .str z, .int i => if z.length ≤ sizeLine then (L2.atI z.cps.toList i).map fun c => .str ⟨#[c]⟩ else none
  | _, _ => none
theorem ro_ix : RO K (rIx K) ixM := by
  intro dk F H st x y d e z w rx ry hz Q q
  unfold ixM at hz
  split at hz
  · obtain ⟨p, vs, rfl, hl, r⟩ := rx.l w.sub
    obtain ⟨v, h1, h2⟩ := r.atI hz
    exact .inl ⟨p, vs, _, v, rfl, ry.int, SqL.of hl, h1, q _ F H (Px.refl w.sub) h2⟩
  · obtain ⟨p, vs, rfl, hl, r⟩ := rx.tup w.sub
    obtain ⟨v, h1, h2⟩ := r.atI hz
    exact .inr (.inl ⟨p, vs, _, v, rfl, ry.int, hl, h1, q _ F H (Px.refl w.sub) h2⟩)
  · split at hz
    · rename_i ho
      obtain ⟨c, h1, rfl⟩ := mpd hz
      exact .inr (.inr ⟨_, _, c, rx.str, ry.int, ho, h1, q _ F H (Px.refl w.sub) (.str _)⟩)
    · cases hz
  · cases hz
end
end MD
set_option Elab.async false
set_option linter.all false
set_option maxRecDepth 100000
set_option maxHeartbeats 1000000
namespace MD
open PySem L2
variable {ww : WW}
section
variable {K : Fg} {dk : Dk} {F F' F0 : Fz} {H H' H0 : Hp} {σ : L2.St} {env : Sg} {st : S}
noncomputable abbrev MO := Sg → S → Option (Option Int × S)
noncomputable def ImO [WW] (K : Fg) (to : TO) (f : MO) : Prop := ∀ (dk : Dk) (H0 : Hp) (F0 F : Fz) (σ : L2.St) (H : Hp) (env : Sg) (st : S) (o : Option Int) (st' : S), Good K dk H0 F0 F σ H env st → f env st = some (o, st') →
  ∀ Q : Option Int → Hp → Prop, (∀ F' H', Ext dk F H F' H' → Good K dk H0 F0 F' σ H' env st' → Q o H') → to σ H Q
noncomputable def noP : MO := fun _ st => some (none, st)
noncomputable def intOf : D → Option Int
  | .int i => some i
  | _ => none
noncomputable def prt (f : ME) : MO := fun env st => (f env st).bind fun p => (intOf p.1).map fun i => (some i, p.2)
theorem io_none : ImO K tNoPart noP := fun dk H0 F0 F σ H env st o st' g e Q q => by
  cases e
  exact q F H (Ext.refl F H) g
theorem io_some {te : TE} {f : ME} (h : ImW K te f) : ImO K (tPart te) (prt f) := fun dk H0 F0 F σ H env st o st' g e Q q => by
  obtain ⟨⟨x, s1⟩, h1, e⟩ := bnd e
  obtain ⟨i, h2, e⟩ := mpd e
  cases e
  refine h dk H0 F0 F σ H env st x s1 g h1 _ fun v F' H' x1 g1 r1 => ?_
  have hx : x = .int i := by
    cases x <;> first | (cases h2; rfl) | cases h2
  subst hx
  exact ⟨i, r1.w.int, q F' H' x1 g1⟩
noncomputable def RS [WW] (K : Fg) (r : V → Option Int → Option Int → Hp → VK → Prop) (f : D → Option Int → Option Int → Option D) : Prop := ∀ (dk : Dk) (F : Fz) (H : Hp) (st : S) (x : V) (d z : D) (lo hi : Option Int), Wd K dk F H st → Rw K dk F H x d → f d lo hi = some z →
  ∀ Q : VK, (∀ v F' H', Px F H F' H' → Rp K dk F' v z → Q v H') → r x lo hi H Q
theorem RS.or {r r' : V → Option Int → Option Int → Hp → VK → Prop} {f f' : D → Option Int → Option Int → Option D} (h : RS K r f) (h' : RS K r' f') :
    RS K (fun x lo hi H Q => r x lo hi H Q ∨ r' x lo hi H Q) (fun d lo hi => (f d lo hi).orElse fun _ => f' d lo hi) := by
  intro dk F H st x d z lo hi w rx hz Q q
  replace hz : ((f d lo hi).orElse fun _ => f' d lo hi) = some z := hz
  cases hf : f d lo hi with
  | some y' =>
    rw [hf] at hz
    have : some y' = some z := hz
    cases this
    exact .inl (h dk F H st x d z lo hi w rx hf Q q)
  | none =>
    rw [hf] at hz
    exact .inr (h' dk F H st x d z lo hi w rx hz Q q)
noncomputable def slM (f : D → Option Int → Option Int → Option D) (fe : ME) (fl fh : MO) : ME := fun env st => (fe env st).bind fun p => (fl env p.2).bind fun l => (fh env l.2).bind fun u => (f (dr u.2 p.1) l.1 u.1).map fun z => (z, u.2)
theorem im_sl {r : V → Option Int → Option Int → Hp → VK → Prop} {f : D → Option Int → Option Int → Option D} {te : TE} {tl th : TO} {fe : ME} {fl fh : MO} (hr : RS K r f) (he : ImW K te fe) (hl : ImO K tl fl) (hh : ImO K th fh) :
    Im K (tSl r te tl th) (slM f fe fl fh) := fun dk H0 F0 F σ H env st d st' g e Q q => by
  obtain ⟨⟨x, s1⟩, h1, e⟩ := bnd e
  obtain ⟨⟨l, s2⟩, h2, e⟩ := bnd e
  obtain ⟨⟨u, s3⟩, h3, e⟩ := bnd e
  obtain ⟨z, h4, e⟩ := mpd e
  cases e
  refine he dk H0 F0 F σ H env st x s1 g h1 _ fun v F1 H1 x1 g1 r1 => ?_
  refine hl dk H0 F0 F1 σ H1 env s1 l s2 g1 h2 _ fun F2 H2 x2 g2 => ?_
  refine hh dk H0 F0 F2 σ H2 env s2 u s3 g2 h3 _ fun F3 H3 x3 g3 => ?_
  exact hr dk F3 H3 s3 v _ d l u g3.wd (((r1.ext x2).ext x3).dr g3.wd) h4 Q fun w F4 H4 px r4 => q w F4 H4 (((x1.trans x2).trans x3).trans px.ext) (g3.px px) r4
noncomputable def cutD (ds : List D) (lo hi : Option Int) : List D := (ds.drop (HT.sIx ds.length 0 lo)).take (HT.sIx ds.length ds.length hi - HT.sIx ds.length 0 lo)
theorem Rps.cut {vs : List V} {ds : List D} (r : Rps K dk F vs ds) (lo hi : Option Int) : Rps K dk F (cutV vs lo hi) (cutD ds lo hi) := by
  unfold cutV cutD
  rw [r.length]
  exact (r.drop _).take _
noncomputable def slTup : D → Option Int → Option Int → Option D
  | .tup ds, lo, hi => some (.tup (cutD ds lo hi))
  | _, _, _ => none
noncomputable def slLst : D → Option Int → Option Int → Option D
  | .lst ds, lo, hi => some (.lst (cutD ds lo hi))
  | _, _, _ => none
noncomputable def slStr : D → Option Int → Option Int → Option D
  | .str z, lo, hi => if z.length ≤ sizeLine then some (.str (cutS z lo hi)) else none
  | _, _, _ => none
theorem rs_tup : RS K (rSlA K) slTup := by
  intro dk F H st x d z lo hi w rx hz Q q
  unfold slTup at hz
  split at hz
  · cases hz
    obtain ⟨p, vs, rfl, hl, r⟩ := rx.tup w.sub
    refine ⟨p, vs, rfl, hl, fun hw => ?_, fun _ a ha => ?_⟩
    · have e : ∀ ds : List D, vs.length = ds.length → cutD ds lo hi = ds := fun ds hl => by
        unfold cutD
        rw [← hl, hw.1, hw.2]
        simp [hl]
      rw [e _ r.length] at q
      exact q _ F H (Px.refl w.sub) rx.tp
    · have px : Px F H (Fz.up F a (.tup (cutV vs lo hi))) (upd H a (.tup (cutV vs lo hi))) := Px.new w.sub ha
      exact q _ _ _ px (.tup (SqT.of Fz.up_same) ((r.cut lo hi).mono px.f))
  · cases hz
theorem rs_lst : RS K (rSlL K) slLst := by
  intro dk F H st x d z lo hi w rx hz Q q
  unfold slLst at hz
  split at hz
  · cases hz
    obtain ⟨p, vs, rfl, hl, r⟩ := rx.l w.sub
    refine ⟨p, vs, rfl, SqL.of hl, fun a ha => ?_⟩
    have px : Px F H (Fz.up F a (.lst (cutV vs lo hi))) (upd H a (.lst (cutV vs lo hi))) := Px.new w.sub ha
    exact q _ _ _ px (.lst Fz.up_same ((r.cut lo hi).mono px.f))
  · cases hz
theorem rs_str : RS K rSlS slStr := by
  intro dk F H st x d z lo hi w rx hz Q q
  unfold slStr at hz
  split at hz
  · split at hz
    · rename_i ho
      cases hz
      exact ⟨_, rx.str, ho, q _ F H (Px.refl w.sub) (.str _)⟩
    · cases hz
  · cases hz
noncomputable def slAny : D → Option Int → Option Int → Option D := fun d lo hi => (slTup d lo hi).orElse fun _ => (slStr d lo hi).orElse fun _ => slLst d lo hi
theorem sl_any {X : Cx} : SlR X (fun x lo hi H Q => rSlA X.K x lo hi H Q ∨ rSlS x lo hi H Q ∨ rSlL X.K x lo hi H Q) := sl_tupA.or (sl_str.or sl_list)
theorem rs_any : RS K (fun x lo hi H Q => rSlA K x lo hi H Q ∨ rSlS x lo hi H Q ∨ rSlL K x lo hi H Q) slAny := rs_tup.or (rs_str.or rs_lst)
noncomputable def aNil : MA := fun _ st => some ([], st)
noncomputable def aCons (f : ME) (r : MA) : MA := fun env st => (f env st).bind fun p => (r env p.2).map fun q => (p.1 :: q.1, q.2)
theorem ia_nil : ImA K tNil aNil := fun dk H0 F0 F σ H env st ds st' g e Q q => by
  cases e
  exact q [] F H (Ext.refl F H) g .nil
theorem ia_cons {te : TE} {ta : TA} {f : ME} {r : MA} (h : Im K te f) (hr : ImA K ta r) : ImA K (tCons te ta) (aCons f r) := fun dk H0 F0 F σ H env st ds st' g e Q q => by
  obtain ⟨⟨x, s1⟩, h1, e⟩ := bnd e
  obtain ⟨⟨xs, s2⟩, h2, e⟩ := mpd e
  cases e
  refine h dk H0 F0 F σ H env st x s1 g h1 _ fun v F1 H1 x1 g1 r1 => ?_
  exact hr dk H0 F0 F1 σ H1 env s1 xs s2 g1 h2 _ fun vs F2 H2 x2 g2 r2 => q (v :: vs) F2 H2 (x1.trans x2) g2 (.cons (r1.mono x2.f) r2)
theorem iaw_nil : ImAW K tNil aNil := fun dk H0 F0 F σ H env st ds st' g e Q q => by
  cases e
  exact q [] F H (Ext.refl F H) g .nil
theorem iaw_cons {te : TE} {ta : TA} {f : ME} {r : MA} (h : ImW K te f) (hr : ImAW K ta r) : ImAW K (tCons te ta) (aCons f r) := fun dk H0 F0 F σ H env st ds st' g e Q q => by
  obtain ⟨⟨x, s1⟩, h1, e⟩ := bnd e
  obtain ⟨⟨xs, s2⟩, h2, e⟩ := mpd e
  cases e
  refine h dk H0 F0 F σ H env st x s1 g h1 _ fun v F1 H1 x1 g1 r1 => ?_
  exact hr dk H0 F0 F1 σ H1 env s1 xs s2 g1 h2 _ fun vs F2 H2 x2 g2 r2 => q (v :: vs) F2 H2 (x1.trans x2) g2 (.cons (r1.ext x2) r2)
noncomputable def tupM (a : MA) : ME := fun env st => (a env st).bind fun p => if p.1.length ≤ sizeLine then some (.tup p.1, p.2) else none
noncomputable def lstM (a : MA) : MA := fun env st => (a env st).bind fun p => if p.1.length ≤ sizeLine then some p else none
theorem im_tup {ta : TA} {a : MA} (h : ImA K ta a) : Im K (tTup ta) (tupM a) := fun dk H0 F0 F σ H env st d st' g e Q q => by
  obtain ⟨⟨xs, s1⟩, h1, e⟩ := bnd e
  split at e
  · rename_i hz
    cases e
    refine h dk H0 F0 F σ H env st xs s1 g h1 _ fun vs F1 H1 x1 g1 r1 => ⟨by rw [r1.length]; exact hz, fun p hp => ?_⟩
    have px : Px F1 H1 (Fz.up F1 p (.tup vs)) (upd H1 p (.tup vs)) := Px.new g1.wd.sub hp
    exact q _ _ _ (x1.trans px.ext) (g1.px px) (.tup (SqT.of Fz.up_same) (r1.mono px.f))
  · cases e
theorem if_lst {ta : TA} {a : MA} (h : ImA K ta a) : ImF K (tLst ta) (lstM a) := fun dk H0 F0 F σ H env st d st' g e Q q => by
  obtain ⟨⟨xs, s1⟩, h1, e⟩ := bnd e
  split at e
  · rename_i hz
    cases e
    refine h dk H0 F0 F σ H env st d st' g h1 _ fun vs F1 H1 x1 g1 r1 => ⟨by rw [r1.length]; exact hz, fun p hp => ?_⟩
    have px : Px F1 H1 F1 (upd H1 p (.lst vs)) := Px.lay g1.wd.sub hp
    have h0 : H p = none := by
      cases w : H p with
      | none => rfl
      | some o => exact absurd hp (x1.m p (by rw [w]; exact fun z => nomatch z))
    exact q p vs F1 _ (x1.trans px.ext) (g1.px px) h0 (g1.wd.out hp) upd_same r1
  · cases e
noncomputable def RC [WW] (K : Fg) (r : List V → Hp → VK → Prop) (f : List D → Option D) : Prop := ∀ (dk : Dk) (F : Fz) (H : Hp) (st : S) (vs : List V) (ds : List D) (z : D), Wd K dk F H st → Rws K dk F H vs ds → f ds = some z →
  ∀ Q : VK, (∀ v F' H', Px F H F' H' → Rp K dk F' v z → Q v H') → r vs H Q
noncomputable def cbM (f : List D → Option D) (a : MA) : ME := fun env st => (a env st).bind fun p => (f (p.1.map (dr p.2))).map fun z => (z, p.2)
theorem im_cb {r : List V → Hp → VK → Prop} {f : List D → Option D} {ta : TA} {a : MA} (hr : RC K r f) (ha : ImAW K ta a) : Im K (tCB r ta) (cbM f a) := fun dk H0 F0 F σ H env st d st' g e Q q => by
  obtain ⟨⟨xs, s1⟩, h1, e⟩ := bnd e
  obtain ⟨z, h2, e⟩ := mpd e
  cases e
  refine ha dk H0 F0 F σ H env st xs s1 g h1 _ fun vs F1 H1 x1 g1 r1 => ?_
  exact hr dk F1 H1 s1 vs _ d g1.wd (r1.dr g1.wd) h2 Q fun w F2 H2 px r2 => q w F2 H2 (x1.trans px.ext) (g1.px px) r2
theorem CallR.or {X : Cx} {f : Value} {r r' : List V → Hp → VK → Prop} (h : CallR X f r) (h' : CallR X f r') : CallR X f (fun xs H Q => r xs H Q ∨ r' xs H Q) := by
  intro pins s σ H xs us Q I rs q
  rcases q with q | q
  · exact h pins s σ H xs us Q I rs q
  · exact h' pins s σ H xs us Q I rs q
theorem RC.or {r r' : List V → Hp → VK → Prop} {f f' : List D → Option D} (h : RC K r f) (h' : RC K r' f') : RC K (fun xs H Q => r xs H Q ∨ r' xs H Q) (fun ds => (f ds).orElse fun _ => f' ds) := by
  intro dk F H st vs ds z w rx hz Q q
  replace hz : ((f ds).orElse fun _ => f' ds) = some z := hz
  cases hf : f ds with
  | some y' =>
    rw [hf] at hz
    have : some y' = some z := hz
    cases this
    exact .inl (h dk F H st vs ds z w rx hf Q q)
  | none =>
    rw [hf] at hz
    exact .inr (h' dk F H st vs ds z w rx hz Q q)
theorem Rys.ws : ∀ {vs : List V} {ds : List D}, Rys K dk F H vs ds → Rws K dk F H vs ds
  | _, _, .nil => .nil
  | _, _, .cons a b => .cons a.w (Rys.ws b)
theorem Rws.one {vs : List V} {d : D} (r : Rws K dk F H vs [d]) : ∃ v, vs = [v] ∧ Rw K dk F H v d := by
  cases r with
  | cons a b => cases b; exact ⟨_, rfl, a⟩
noncomputable def lenM : List D → Option D
  | [.str z] => if z.length ≤ sizeLine then some (.int z.length) else none
  | [.lst ds] => some (.int ds.length)
  | [.tup ds] => some (.int ds.length)
  | _ => none
theorem rc_len : RC K (fun xs H Q => ∃ x n, xs = [x] ∧ LenV K x H n ∧ Q (.int n) H) lenM := by
  intro dk F H st vs ds z w rx hz Q q
  unfold lenM at hz
  split at hz
  · split at hz
    · rename_i ho
      cases hz
      obtain ⟨v, rfl, r⟩ := rx.one
      cases r.str
      exact ⟨_, _, rfl, ⟨ho, rfl⟩, q _ F H (Px.refl w.sub) (.int _)⟩
    · cases hz
  · cases hz
    obtain ⟨v, rfl, r⟩ := rx.one
    obtain ⟨p, vs, rfl, hl, r⟩ := r.l w.sub
    exact ⟨_, vs.length, rfl, .inl ⟨vs, SqL.of hl, rfl⟩, by rw [r.length]; exact q _ F H (Px.refl w.sub) (.int _)⟩
  · cases hz
    obtain ⟨v, rfl, r⟩ := rx.one
    obtain ⟨p, vs, rfl, hl, r⟩ := r.tup w.sub
    exact ⟨_, vs.length, rfl, .inr ⟨vs, hl, rfl⟩, by rw [r.length]; exact q _ F H (Px.refl w.sub) (.int _)⟩
  · cases hz
noncomputable def int1M : List D → Option D
  | [.int i] => some (.int i)
  | [.bl k] => some (.int (if k then 1 else 0))
  | _ => none
noncomputable def intsOf : List D → Option (List Int)
  | [] => some []
  | .int i :: r => (intsOf r).map (i :: ·)
  | _ => none
noncomputable def strsOf : List D → Option (List Str)
  | [] => some []
  | .str i :: r => (strsOf r).map (i :: ·)
  | _ => none
theorem Rps.strs : ∀ {vs : List V} {ds : List D} {ns : List Str}, Rps K dk F vs ds → strsOf ds = some ns → vs = ns.map V.str
  | _, _, _, .nil, h => by cases h; rfl
  | _, _, _, .cons a b, h => by
    rename_i d ds
    cases d with
    | str i =>
      obtain ⟨ms, h1, h2⟩ := mpd (f := (i :: ·)) h
      cases h2
      cases a
      rw [Rps.strs b h1]
      rfl
    | _ => cases h
noncomputable def sumM : List D → Option D
  | [.lst ds] => (intsOf ds).map fun ns => .int ns.sum
  | _ => none
noncomputable def topI : List Int → Int
  | [] => 0
  | [x] => x
  | x :: y :: r => if topI (y :: r) > x then topI (y :: r) else x
noncomputable def botI : List Int → Int
  | [] => 0
  | [x] => x
  | x :: y :: r => if botI (y :: r) < x then botI (y :: r) else x
noncomputable def maxM : List D → Option D
  | [.lst (d :: ds)] => (intsOf (d :: ds)).map fun ns => .int (topI ns)
  | _ => none
noncomputable def minM : List D → Option D
  | [.lst (d :: ds)] => (intsOf (d :: ds)).map fun ns => .int (botI ns)
  | _ => none
noncomputable def tupOfM : List D → Option D
  | [.lst ds] => some (.tup ds)
  | [.tup ds] => some (.tup ds)
  | _ => none
theorem rc_tupOf : RC K (fun xs H Q => ∃ p ys, xs = [.ref p] ∧ ((SqL K H p ys ∧ ∀ l, H l = none → Q (.ref l) (upd H l (.tup ys))) ∨ (SqT K H p ys ∧ Q (.ref p) H))) tupOfM := by
  intro dk F H st vs ds z w rx hz Q q
  unfold tupOfM at hz
  split at hz
  · cases hz
    obtain ⟨v, rfl, r⟩ := rx.one
    obtain ⟨p, vs, rfl, hl, r⟩ := r.l w.sub
    refine ⟨p, vs, rfl, .inl ⟨SqL.of hl, fun a ha => ?_⟩⟩
    have px : Px F H (Fz.up F a (.tup vs)) (upd H a (.tup vs)) := Px.new w.sub ha
    exact q _ _ _ px (.tup (SqT.of Fz.up_same) (r.mono px.f))
  · cases hz
    obtain ⟨v, rfl, r⟩ := rx.one
    obtain ⟨p, vs, rfl, hl, r'⟩ := r.tup w.sub
    refine ⟨p, vs, rfl, .inr ⟨hl, ?_⟩⟩
    exact q _ F H (Px.refl w.sub) r.tp
  · cases hz
/-- the signs of a text -/
noncomputable def signs (x : Str) : List Str := x.cps.toList.map fun c => ⟨#[c]⟩
noncomputable def tupStrM : List D → Option D
  | [.str x] => if x.cps.size ≤ sizeLine then some (.tup ((signs x).map D.str)) else none
  | _ => none
theorem Rps.ofStrs : ∀ (xs : List Str), Rps K dk F (xs.map V.str) (xs.map D.str)
  | [] => .nil
  | x :: xs => .cons (.str x) (Rps.ofStrs xs)
theorem call_tupStr {X : Cx} (hc : X.calm = true) : CallR X (.type "tuple") (fun xs H Q => ∃ x, xs = [.str x] ∧ x.cps.size ≤ sizeLine ∧ ∀ p, H p = none → Q (.ref p) (upd H p (.tup ((signs x).map V.str)))) := by
  intro pins s σ H xs us Q I rs h
  obtain ⟨x, rfl, hz, q⟩ := h
  obtain ⟨u, rfl, rx⟩ := vals1 rs
  obtain ⟨t, rfl⟩ := rx
  refine call_tuple_str (I.ok.hd hc) x t (fun h' tk acc hk hi => ?_) hz
  have I' : Inv X pins σ H { s with heap := h', toks := tk } := I.kept (t' := tk) hk
  have lenA : acc.toList.length = (signs x).length := by
    unfold signs
    rw [List.length_map, Array.length_toList, Array.length_toList]
    exact hi.1
  have vals : Vals ((signs x).map V.str) acc.toList := by
    have key : ∀ (l : List Value) (m : List Nat), l.length = m.length → (∀ (j : Nat) (v : Value), l[j]? = some v → ∃ c u, m[j]? = some c ∧ v = .str ⟨#[c]⟩ u) → Vals ((m.map fun c => (⟨#[c]⟩ : Str)).map V.str) l := by
      intro l
      induction l with
      | nil => intro m hm _; cases m with
        | nil => exact .nil
        | cons _ _ => cases hm
      | cons a l ih => intro m hm hj; cases m with
        | nil => cases hm
        | cons c m =>
          obtain ⟨c', u, e1, e2⟩ := hj 0 a rfl
          have e1' : c = c' := Option.some.inj e1
          subst e1' e2
          exact .cons ⟨u, rfl⟩ (ih m (by simpa using hm) fun j v hv => hj (j + 1) v hv)
    refine key acc.toList x.cps.toList (by simpa [signs] using lenA) fun j v hv => ?_
    obtain ⟨c, u, h1, h2⟩ := hi.2 j v (by simpa using hv)
    exact ⟨c, u, by simpa using h1, h2⟩
  have hf : H h'.objs.size = none := I'.hok.fresh (Nat.le_refl _)
  refine ⟨.ref h'.objs.size, upd H h'.objs.size (.tup ((signs x).map V.str)), I'.laid (t' := tk) (fun b o e => Heap.get?_push_of_some _ e) (Nat.le_refl _) ?_, rfl, q _ hf⟩
  refine ⟨?_, acc.toList, vals, ⟨_, Heap.get?_push_size _ rfl, rfl, _, rfl⟩⟩
  rw [List.length_map]
  unfold signs
  rw [List.length_map, Array.length_toList]
  exact hz
theorem rc_tupStr : RC K (fun xs H Q => ∃ x, xs = [.str x] ∧ x.cps.size ≤ sizeLine ∧ ∀ p, H p = none → Q (.ref p) (upd H p (.tup ((signs x).map V.str)))) tupStrM := by
  intro dk F H st vs ds z w rx hz Q q
  unfold tupStrM at hz
  split at hz
  · rename_i y
    split at hz
    · rename_i ho
      cases hz
      obtain ⟨v, rfl, r⟩ := rx.one
      cases r.str
      refine ⟨_, rfl, ho, fun a ha => ?_⟩
      have px : Px F H (Fz.up F a (.tup ((signs y).map V.str))) (upd H a (.tup ((signs y).map V.str))) := Px.new w.sub ha
      exact q _ _ _ px (.tup (SqT.of Fz.up_same) (Rps.ofStrs _))
    · cases hz
  · cases hz
end
end MD
set_option Elab.async false
set_option linter.all false
set_option maxRecDepth 100000
set_option maxHeartbeats 1000000
namespace MD
open PySem L2
variable {ww : WW}
section
variable {K : Fg} {dk : Dk} {F F' F0 : Fz} {H H' H0 : Hp} {σ : L2.St} {env : Sg} {st : S}
noncomputable def RM [WW] (K : Fg) (r : V → List V → Hp → VK → Prop) (f : D → List D → Option D) : Prop := ∀ (dk : Dk) (F : Fz) (H : Hp) (st : S) (x : V) (d : D) (vs : List V) (ds : List D) (z : D), Wd K dk F H st → Rw K dk F H x d → Rws K dk F H vs ds → f d ds = some z →
  ∀ Q : VK, (∀ v F' H', Px F H F' H' → Rp K dk F' v z → Q v H') → r x vs H Q
noncomputable def isStrD : D → Bool
  | .str _ => true
  | _ => false
noncomputable def isLstD : D → Bool
  | .lst _ => true
  | _ => false
noncomputable def m1M (f : D → List D → Option D) (fo fe : ME) : ME := fun env st => (fo env st).bind fun p => if isStrD p.1 then (fe env p.2).bind fun q => (f p.1 [dr q.2 q.1]).map fun z => (z, q.2) else none
theorem im_m1 {r : V → List V → Hp → VK → Prop} {f : D → List D → Option D} {to te : TE} {fo fe : ME} (hr : RM K r f) (ho : ImW K to fo) (he : ImW K te fe) : Im K (tM1 r to te) (m1M f fo fe) := fun dk H0 F0 F σ H env st d st' g e Q q => by
  obtain ⟨⟨x, s1⟩, h1, e⟩ := bnd e
  split at e
  · rename_i hs
    obtain ⟨⟨y, s2⟩, h2, e⟩ := bnd e
    obtain ⟨z, h3, e⟩ := mpd e
    cases e
    refine ho dk H0 F0 F σ H env st x s1 g h1 _ fun v F1 H1 x1 g1 r1 => ⟨?_, ?_⟩
    · have hs' : isStrD x = true := hs
      cases x <;> first | exact ⟨_, r1.w.str⟩ | cases hs'
    · refine he dk H0 F0 F1 σ H1 env s1 y s2 g1 h2 _ fun u F2 H2 x2 g2 r2 => ?_
      exact hr dk F2 H2 s2 v x [u] [dr s2 y] d g2.wd (r1.ext x2).w (.cons (r2.dr g2.wd) .nil) h3 Q fun w F3 H3 px r3 => q w F3 H3 ((x1.trans x2).trans px.ext) (g2.px px) r3
  · cases e
noncomputable def bmL (f : D → List D → Option D) (fo : ME) (fa : MA) : ME := fun env st => (fo env st).bind fun p => if isLstD (dr p.2 p.1) then (fa env p.2).bind fun q => (f (dr q.2 p.1) (q.1.map (dr q.2))).map fun z => (z, q.2) else none
/-- text.join(list or tuple of texts) -/
noncomputable def joinM : D → List D → Option D
  | .str a, [.lst ds] => (strsOf ds).bind fun ys => if (ys.map (·.length)).sum + ys.length * a.length ≤ 16777216 then some (.str (Txt.join a ys)) else none
  | .str a, [.tup ds] => (strsOf ds).bind fun ys => if (ys.map (·.length)).sum + ys.length * a.length ≤ 16777216 then some (.str (Txt.join a ys)) else none
  | _, _ => none
theorem rm_join : RM K (fun x xs H Q => ∃ a p, ∃ ys : List Str, x = .str a ∧ xs = [.ref p] ∧ (SqL K H p (ys.map V.str) ∨ SqT K H p (ys.map V.str)) ∧
    (ys.map (·.length)).sum + ys.length * a.length ≤ 16777216 ∧ Q (.str (Txt.join a ys)) H) joinM := by
  intro dk F H st x d vs ds z w rx rs hz Q q
  unfold joinM at hz
  split at hz
  · obtain ⟨ys, h1, hz⟩ := bnd hz
    split at hz
    · rename_i ho
      cases hz
      obtain ⟨v, rfl, r⟩ := rs.one
      obtain ⟨p, us, rfl, hl, r2⟩ := r.l w.sub
      cases r2.strs h1
      exact ⟨_, p, ys, rx.str, rfl, .inl (SqL.of hl), ho, q _ F H (Px.refl w.sub) (.str _)⟩
    · cases hz
  · obtain ⟨ys, h1, hz⟩ := bnd hz
    split at hz
    · rename_i ho
      cases hz
      obtain ⟨v, rfl, r⟩ := rs.one
      obtain ⟨p, us, rfl, hl, r2⟩ := r.tup w.sub
      cases r2.strs h1
      exact ⟨_, p, ys, rx.str, rfl, .inr hl, ho, q _ F H (Px.refl w.sub) (.str _)⟩
    · cases hz
  · cases hz
noncomputable def unI (g : Int → D) : D → Option D
  | .int i => some (g i)
  | _ => none
noncomputable def unM (f : D → Option D) (fa : ME) : ME := fun env st => (fa env st).bind fun p => (f p.1).map fun z => (z, p.2)
theorem im_neg {ta : TE} {fa : ME} (h : ImW K ta fa) : Im K (tUn (rU fun i => .int (-i)) ta) (unM (unI fun i => .int (-i)) fa) := fun dk H0 F0 F σ H env st d st' g e Q q => by
  obtain ⟨⟨x, s1⟩, h1, e⟩ := bnd e
  obtain ⟨z, h2, e⟩ := mpd e
  cases e
  refine h dk H0 F0 F σ H env st x s1 g h1 _ fun v F1 H1 x1 g1 r1 => ?_
  replace h2 : unI (fun i => .int (-i)) x = some d := h2
  unfold unI at h2
  split at h2
  · cases h2
    cases r1.w.int
    exact ⟨_, rfl, q _ F1 H1 x1 g1 (.int _)⟩
  · cases h2
noncomputable def blOf : D → Option Bool
  | .bl b => some b
  | _ => none
noncomputable def tstM (f : ME) : MT := fun env st => (f env st).bind fun p => (blOf p.1).map fun b => (b, p.2)
theorem blOf_eq {d : D} {b : Bool} (h : blOf d = some b) : d = .bl b := by
  cases d <;> first | (cases h; rfl) | cases h
theorem it_test {te : TE} {f : ME} (h : Im K te f) : ImT K (tTest te) (tstM f) := fun dk H0 F0 F σ H env st b st' g e Q q => by
  obtain ⟨⟨x, s1⟩, h1, e⟩ := bnd e
  obtain ⟨z, h2, e⟩ := mpd e
  cases e
  refine h dk H0 F0 F σ H env st x s1 g h1 _ fun v F1 H1 x1 g1 r1 => ?_
  cases blOf_eq h2
  cases r1
  exact ⟨_, rfl, q F1 H1 x1 g1⟩
/-- truth of any value -/
noncomputable def truD : D → Option Bool
  | .non => some false
  | .bl b => some b
  | .int i => some (i != 0)
  | .str y => if y.length ≤ sizeLine then some ((y.length : Int) != 0) else none
  | .lst ds => some (!ds.isEmpty)
  | .tup ds => some (!ds.isEmpty)
  | _ => none
noncomputable def truM (f : ME) : MT := fun env st => (f env st).bind fun p => (truD (dr p.2 p.1)).map fun b => (b, p.2)
theorem Rps.empty {vs : List V} {ds : List D} (r : Rps K dk F vs ds) : vs.isEmpty = ds.isEmpty := by cases r <;> rfl
theorem it_truth {te : TE} {f : ME} (h : ImW K te f) : ImT K (fun σ H Q => te σ H fun x H' => ∃ k, TruV K x H' k ∧ Q k H') (truM f) := fun dk H0 F0 F σ H env st b st' g e Q q => by
  obtain ⟨⟨x, s1⟩, h1, e⟩ := bnd e
  obtain ⟨z, h2, e⟩ := mpd e
  cases e
  refine h dk H0 F0 F σ H env st x s1 g h1 _ fun v F1 H1 x1 g1 r1 => ⟨b, ?_, q F1 H1 x1 g1⟩
  replace h2 : truD (dr _ x) = some b := h2
  have r2 := r1.dr g1.wd
  generalize dr _ x = x' at h2 r2
  unfold truD at h2
  split at h2
  · cases h2; cases r2.non; rfl
  · cases h2; cases r2.bl; rfl
  · cases h2; cases r2.int; rfl
  · split at h2
    · rename_i ho
      cases h2; cases r2.str; exact ⟨ho, rfl⟩
    · cases h2
  · cases h2
    obtain ⟨p, vs, rfl, hl, r⟩ := r2.l g1.wd.sub
    exact .inl ⟨vs, SqL.of hl, by rw [r.empty]⟩
  · cases h2
    obtain ⟨p, vs, rfl, hl, r⟩ := r2.tup g1.wd.sub
    exact .inr (.inl ⟨vs, hl, by rw [r.empty]⟩)
  · cases h2
noncomputable def andM (f h : MT) : MT := fun env st => (f env st).bind fun p => if p.1 then h env p.2 else some (false, p.2)
noncomputable def orM (f h : MT) : MT := fun env st => (f env st).bind fun p => if p.1 then some (true, p.2) else h env p.2
noncomputable def notM (f : MT) : MT := fun env st => (f env st).map fun p => (!p.1, p.2)
theorem it_and {t u : TT} {f h : MT} (h1 : ImT K t f) (h2 : ImT K u h) : ImT K (tAnd t u) (andM f h) := fun dk H0 F0 F σ H env st b st' g e Q q => by
  obtain ⟨⟨x, s1⟩, e1, e⟩ := bnd e
  refine h1 dk H0 F0 F σ H env st x s1 g e1 _ fun F1 H1 x1 g1 => ?_
  cases x with
  | true => exact h2 dk H0 F0 F1 σ H1 env s1 b st' g1 e Q fun F2 H2 x2 g2 => q F2 H2 (x1.trans x2) g2
  | false => cases e; exact q F1 H1 x1 g1
theorem it_or {t u : TT} {f h : MT} (h1 : ImT K t f) (h2 : ImT K u h) : ImT K (tOr t u) (orM f h) := fun dk H0 F0 F σ H env st b st' g e Q q => by
  obtain ⟨⟨x, s1⟩, e1, e⟩ := bnd e
  refine h1 dk H0 F0 F σ H env st x s1 g e1 _ fun F1 H1 x1 g1 => ?_
  cases x with
  | false => exact h2 dk H0 F0 F1 σ H1 env s1 b st' g1 e Q fun F2 H2 x2 g2 => q F2 H2 (x1.trans x2) g2
  | true => cases e; exact q F1 H1 x1 g1
theorem it_not {t : TT} {f : MT} (h1 : ImT K t f) : ImT K (tNot t) (notM f) := fun dk H0 F0 F σ H env st b st' g e Q q => by
  obtain ⟨⟨x, s1⟩, e1, e⟩ := mpd e
  cases e
  exact h1 dk H0 F0 F σ H env st x s1 g e1 _ fun F1 H1 x1 g1 => q F1 H1 x1 g1
noncomputable def andV (f h : ME) : ME := fun env st => (f env st).bind fun p => (blOf p.1).bind fun b => if b then h env p.2 else some (.bl false, p.2)
noncomputable def orV (f h : ME) : ME := fun env st => (f env st).bind fun p => (blOf p.1).bind fun b => if b then some (.bl true, p.2) else h env p.2
noncomputable def notV (f : ME) : ME := fun env st => (f env st).bind fun p => (blOf p.1).map fun b => (.bl (!b), p.2)
theorem im_andV {t u : TE} {f h : ME} (h1 : Im K t f) (h2 : Im K u h) : Im K (tAndV t u) (andV f h) := fun dk H0 F0 F σ H env st d st' g e Q q => by
  obtain ⟨⟨x, s1⟩, e1, e⟩ := bnd e
  obtain ⟨b, e2, e⟩ := bnd e
  refine h1 dk H0 F0 F σ H env st x s1 g e1 _ fun v F1 H1 x1 g1 r1 => ?_
  cases blOf_eq e2
  cases r1
  refine ⟨b, rfl, ?_⟩
  cases b with
  | true => exact h2 dk H0 F0 F1 σ H1 env s1 d st' g1 e Q fun v F2 H2 x2 g2 r2 => q v F2 H2 (x1.trans x2) g2 r2
  | false => cases e; exact q _ F1 H1 x1 g1 (.bl false)
theorem im_notV {t : TE} {f : ME} (h1 : Im K t f) : Im K (tNotV t) (notV f) := fun dk H0 F0 F σ H env st d st' g e Q q => by
  obtain ⟨⟨x, s1⟩, e1, e⟩ := bnd e
  obtain ⟨b, e2, e⟩ := mpd e
  cases e
  refine h1 dk H0 F0 F σ H env st x s1 g e1 _ fun v F1 H1 x1 g1 r1 => ?_
  cases blOf_eq e2
  cases r1
  exact ⟨b, rfl, q _ F1 H1 x1 g1 (.bl _)⟩
noncomputable def ifM (c : MT) (f h : ME) : ME := fun env st => (c env st).bind fun p => if p.1 then f env p.2 else h env p.2
theorem im_if {t : TT} {ta tb : TE} {c : MT} {f h : ME} (h0 : ImT K t c) (h1 : Im K ta f) (h2 : Im K tb h) : Im K (tIf t ta tb) (ifM c f h) := fun dk H0 F0 F σ H env st d st' g e Q q => by
  obtain ⟨⟨x, s1⟩, e1, e⟩ := bnd e
  refine h0 dk H0 F0 F σ H env st x s1 g e1 _ fun F1 H1 x1 g1 => ?_
  cases x with
  | true => exact h1 dk H0 F0 F1 σ H1 env s1 d st' g1 e Q fun v F2 H2 x2 g2 r2 => q v F2 H2 (x1.trans x2) g2 r2
  | false => exact h2 dk H0 F0 F1 σ H1 env s1 d st' g1 e Q fun v F2 H2 x2 g2 r2 => q v F2 H2 (x1.trans x2) g2 r2
/-- a op b op' c -/
noncomputable def chM (f f' : D → D → Option D) (fa fb fc : ME) : ME := fun env st => (fa env st).bind fun p => (fb env p.2).bind fun q => (f p.1 q.1).bind fun z => (blOf z).bind fun b =>
  if b then (fc env q.2).bind fun r => (f' q.1 r.1).map fun z => (z, r.2) else some (.bl false, q.2)
theorem im_chain {r r' : R2} {f f' : D → D → Option D} {ta tb tc : TE} {fa fb fc : ME} (hr : RO K r f) (hr' : RO K r' f') (ha : ImW K ta fa) (hb : ImW K tb fb) (hc : ImW K tc fc) : Im K (tChain r r' ta tb tc) (chM f f' fa fb fc) := fun dk H0 F0 F σ H env st d st' g e Q q => by
  obtain ⟨⟨x, s1⟩, h1, e⟩ := bnd e
  obtain ⟨⟨y, s2⟩, h2, e⟩ := bnd e
  obtain ⟨z, h3, e⟩ := bnd e
  obtain ⟨b, h4, e⟩ := bnd e
  refine ha dk H0 F0 F σ H env st x s1 g h1 _ fun v F1 H1 x1 g1 r1 => ?_
  refine hb dk H0 F0 F1 σ H1 env s1 y s2 g1 h2 _ fun u F2 H2 x2 g2 r2 => ?_
  refine hr dk F2 H2 s2 v u x y z g2.wd (r1.ext x2).w r2.w h3 _ fun w F3 H3 px r3 => ?_
  cases blOf_eq h4
  cases r3
  refine ⟨b, rfl, ?_⟩
  have g3 := g2.px px
  have x3 := (x1.trans x2).trans px.ext
  cases b with
  | false => cases e; exact q _ F3 H3 x3 g3 (.bl false)
  | true =>
    replace e : ((fc env s2).bind fun r => (f' y r.1).map fun z => (z, r.2)) = some (d, st') := e
    obtain ⟨⟨t, s4⟩, h5, e⟩ := bnd e
    obtain ⟨z', h6, e⟩ := mpd e
    cases e
    refine hc dk H0 F0 F3 σ H3 env s2 t s4 g3 h5 _ fun w' F4 H4 x4 g4 r4 => ?_
    exact hr' dk F4 H4 s4 u w' y t d g4.wd ((r2.ext px.ext).ext x4).w r4.w h6 Q fun v5 F5 H5 px5 r5 => q v5 F5 H5 ((x3.trans x4).trans px5.ext) (g4.px px5) r5
end
end MD
set_option Elab.async false
set_option linter.all false
set_option maxRecDepth 100000
set_option maxHeartbeats 1000000
namespace MD
open PySem L2
variable {ww : WW}
inductive Fl where
  | nx (env : Sg) | rt (d : D) | bk (env : Sg) | ct (env : Sg)
noncomputable abbrev MS := Sg → S → Option (Fl × S)
noncomputable def Dn [WW] (K : Fg) (dk : Dk) (H0 : Hp) (F0 F : Fz) (E : Ends) (st : S) : Fl → Prop
  | .nx env => ∀ F' σ H, Le F F' → Good K dk H0 F0 F' σ H env st → E.nx σ H
  | .bk env => ∀ F' σ H, Le F F' → Good K dk H0 F0 F' σ H env st → E.bk σ H
  | .ct env => ∀ F' σ H, Le F F' → Good K dk H0 F0 F' σ H env st → E.ct σ H
  | .rt d => ∀ v F' H, Ext dk F0 H0 F' H → Wd K dk F' H st → Rp K dk F' v d → E.rt v H
noncomputable def ImS [WW] (K : Fg) (ts : TS) (f : MS) : Prop := ∀ (dk : Dk) (H0 : Hp) (F0 F : Fz) (σ : L2.St) (H : Hp) (env : Sg) (st : S) (fl : Fl) (st' : S), Good K dk H0 F0 F σ H env st → f env st = some (fl, st') → ∀ E : Ends, Dn K dk H0 F0 F E st' fl → ts E σ H
theorem Dn.mono {K : Fg} {dk : Dk} {H0 : Hp} {F0 F F' : Fz} {E : Ends} {st : S} {fl : Fl} (le : Le F F') (h : Dn K dk H0 F0 F E st fl) : Dn K dk H0 F0 F' E st fl := by
  cases fl with
  | nx e => exact fun F2 σ H l => h F2 σ H (le.trans l)
  | bk e => exact fun F2 σ H l => h F2 σ H (le.trans l)
  | ct e => exact fun F2 σ H l => h F2 σ H (le.trans l)
  | rt d => exact h
section
variable {K : Fg} {dk : Dk} {F F' F0 : Fz} {H H' H0 : Hp} {σ : L2.St} {env : Sg} {st : S}
theorem Good.set {i : Nat} {x : V} {d : D} (g : Good K dk H0 F0 F σ H env st) (r : Rp K dk F x d) : Good K dk H0 F0 F (σ.set i (some x)) H (env.set i (.val d)) st := by
  refine ⟨g.wd, g.ext, by rw [List.length_set, List.length_set]; exact g.len, fun j s e => ?_, fun j k ds es p hne e1 e2 e3 => ?_⟩
  · by_cases hj : i = j
    · subst hj
      by_cases hl : i < env.length
      · rw [List.getElem?_set_self hl] at e
        cases e
        rw [List.getElem?_set_self (by rw [g.len]; exact hl)]
        exact ⟨x, rfl, r⟩
      · rw [List.getElem?_eq_none (by rw [List.length_set]; omega)] at e
        cases e
    · rw [List.getElem?_set_ne hj] at e
      rw [List.getElem?_set_ne hj]
      exact g.sl j s e
  · have nj : i ≠ j := fun z => by
      subst z
      by_cases hl : i < env.length
      · rw [List.getElem?_set_self hl] at e1; cases e1
      · rw [List.getElem?_eq_none (by rw [List.length_set]; omega)] at e1; cases e1
    have nk : i ≠ k := fun z => by
      subst z
      by_cases hl : i < env.length
      · rw [List.getElem?_set_self hl] at e2; cases e2
      · rw [List.getElem?_eq_none (by rw [List.length_set]; omega)] at e2; cases e2
    rw [List.getElem?_set_ne nj] at e1 e3
    rw [List.getElem?_set_ne nk] at e2 ⊢
    exact g.dis j k ds es p hne e1 e2 e3
theorem Good.setO {i : Nat} {p : Addr} {vs : List V} {ds : Own} (g : Good K dk H0 F0 F σ H env st) (hp : ds.1.At H p vs) (fp : F.out p) (h0 : H0 p = none) (n1 : p ≠ dk.1) (n2 : p ≠ dk.2)
    (no : ∀ (j : Nat) (es : Own), env[j]? = some (.own es) → σ[j]? ≠ some (some (.ref p))) (r : Rps K dk F vs ds.2) : Good K dk H0 F0 F (σ.set i (some (.ref p))) H (env.set i (.own ds)) st := by
  refine ⟨g.wd, g.ext, by rw [List.length_set, List.length_set]; exact g.len, fun j s e => ?_, fun j k es es' q hne e1 e2 e3 => ?_⟩
  · by_cases hj : i = j
    · subst hj
      by_cases hl : i < env.length
      · rw [List.getElem?_set_self hl] at e
        cases e
        rw [List.getElem?_set_self (by rw [g.len]; exact hl)]
        exact ⟨p, vs, rfl, hp, fp, h0, n1, n2, r⟩
      · rw [List.getElem?_eq_none (by rw [List.length_set]; omega)] at e
        cases e
    · rw [List.getElem?_set_ne hj] at e
      rw [List.getElem?_set_ne hj]
      exact g.sl j s e
  · by_cases hj : i = j
    · subst hj
      have nk : i ≠ k := hne
      rw [List.getElem?_set_ne nk] at e2 ⊢
      by_cases hl : i < env.length
      · rw [List.getElem?_set_self (by rw [g.len]; exact hl)] at e3
        cases e3
        exact no k es' e2
      · rw [List.getElem?_eq_none (by rw [List.length_set]; omega)] at e1; cases e1
    · rw [List.getElem?_set_ne hj] at e1 e3
      by_cases hk : i = k
      · subst hk
        by_cases hl : i < env.length
        · rw [List.getElem?_set_self (by rw [g.len]; exact hl)]
          intro z
          cases z
          exact no j es e1 e3
        · rw [List.getElem?_eq_none (by rw [List.length_set]; omega)] at e2; cases e2
      · rw [List.getElem?_set_ne hk] at e2 ⊢
        exact g.dis j k es es' q hne e1 e2 e3
theorem Ow.At.nf {p : Addr} {o : HO} : ∀ {w : Ow} {vs : List V}, w.At (L2.upd H p o) p vs → ¬ Fro o
  | .lst, _, h => by
    have h : L2.upd H p o p = _ := h
    rw [upd_same] at h; cases h
    rintro ⟨_, _, z⟩; cases z
  | .dic _, _, h => by
    have h := h.1
    rw [upd_same] at h; cases h
    rintro ⟨_, _, z⟩; cases z
/-- a thing that is neither frozen nor in the store is changed -/
theorem Wd.upd {p : Addr} {o' : HO} (w : Wd K dk F H st) (fp : F.out p) (n1 : p ≠ dk.1) (n2 : p ≠ dk.2) : Wd K dk F (L2.upd H p o') st := by
  refine ⟨fun a u e => ?_, by rw [upd_ne n1.symm]; exact w.d1, by rw [upd_ne n2.symm]; exact w.d2, w.f1, w.f2, w.ne, w.ml, w.nd, fun n a u h1 h2 => ?_⟩
  · rw [upd_ne (ne_of_none e fp.1)]; exact w.sub a u e
  · obtain ⟨q1, q2⟩ := w.ob n a u h1 h2
    have na : a ≠ p := fun z => fp.2 (z ▸ List.mem_of_getElem? h1)
    exact ⟨q1, q2.keep (fun _ e => by rw [upd_ne na]; exact e) (Le.refl F)⟩
theorem Ext.upd {p : Addr} {o' : HO} (x : Ext dk F0 H0 F H) (h0 : H0 p = none) (nf : ¬ Fro o' := by rintro ⟨_, _, z⟩; cases z) : Ext dk F0 H0 F (L2.upd H p o') := by
  refine ⟨fun a o e n1 n2 n3 => ?_, x.f, x.n, fun a e z => ?_, x.u, fun a o e f => x.k a o (updK nf a o e f) f⟩
  · rw [upd_ne (ne_of_none e h0)]; exact x.h a o e n1 n2 n3
  · by_cases na : a = p
    · subst na; rw [upd_same] at z; cases z
    · rw [upd_ne na] at z; exact x.m a e z
/-- an own list is changed -/
theorem Good.mut {i : Nat} {p : Addr} {vs' : List V} {o' : HO} {ds ds' : Own} (g : Good K dk H0 F0 F σ H env st) (he : env[i]? = some (.own ds)) (hs : σ[i]? = some (some (.ref p))) (hw : ds'.1.At (upd H p o') p vs') (r : Rps K dk F vs' ds'.2) :
    Good K dk H0 F0 F σ (upd H p o') (env.set i (.own ds')) st := by
  obtain ⟨p', vs, h1, h2, h3, h4, h5, h6, h7⟩ := g.sl i _ he
  rw [hs] at h1
  have : p = p' := V.ref.inj (Option.some.inj h1)
  subst this
  have hil : i < env.length := by
    by_cases hl : i < env.length
    · exact hl
    · rw [List.getElem?_eq_none (by omega)] at he; cases he
  refine ⟨g.wd.upd h3 h5 h6, g.ext.upd h4 hw.nf, by rw [List.length_set]; exact g.len, fun j s e => ?_, fun j k es es' q hne e1 e2 e3 => ?_⟩
  · by_cases hj : i = j
    · subst hj
      rw [List.getElem?_set_self hil] at e
      cases e
      rw [hs]
      exact ⟨p, vs', rfl, hw, h3, h4, h5, h6, r⟩
    · rw [List.getElem?_set_ne hj] at e
      have q := g.sl j s e
      cases s with
      | un => trivial
      | val d => exact q
      | cap o => cases o <;> exact q
      | own es =>
        obtain ⟨p2, us, k1, k2, k3⟩ := q
        have np : p2 ≠ p := fun z => by
          subst z
          exact g.dis i j ds es p2 hj he e hs (join_eq k1)
        exact ⟨p2, us, k1, k2.keep fun o e => by rw [upd_ne np]; exact e, k3⟩
  · have back : ∀ (m : Nat) (zs : Own), (env.set i (.own ds'))[m]? = some (.own zs) → ∃ zs', env[m]? = some (.own zs') := fun m zs e => by
      by_cases hm : i = m
      · subst hm; exact ⟨ds, he⟩
      · rw [List.getElem?_set_ne hm] at e; exact ⟨zs, e⟩
    obtain ⟨z1, b1⟩ := back j es e1
    obtain ⟨z2, b2⟩ := back k es' e2
    exact g.dis j k z1 z2 q hne b1 b2 e3
/-- a thing that nobody knows of is changed -/
theorem Good.mutT {p : Addr} {o o' : HO} (g : Good K dk H0 F0 F σ H env st) (hp : H p = some o) (fp : F.out p) (h0 : H0 p = none) (n1 : p ≠ dk.1) (n2 : p ≠ dk.2)
    (no : ∀ (j : Nat) (es : Own), env[j]? = some (.own es) → σ[j]? ≠ some (some (.ref p))) (nf : ¬ Fro o' := by rintro ⟨_, _, z⟩; cases z) : Good K dk H0 F0 F σ (upd H p o') env st := by
  refine ⟨g.wd.upd fp n1 n2, g.ext.upd h0 nf, g.len, fun j s e => ?_, g.dis⟩
  · have q := g.sl j s e
    cases s with
    | un => trivial
    | val d => exact q
    | cap o => cases o <;> exact q
    | own es =>
      obtain ⟨p2, us, k1, k2, k3⟩ := q
      have np : p2 ≠ p := fun z => by
        subst z
        exact no j es e (join_eq k1)
      exact ⟨p2, us, k1, k2.keep fun o e => by rw [upd_ne np]; exact e, k3⟩
/-- other slots, no more known -/
theorem Good.reslot {σ' : L2.St} {env' : Sg} (g : Good K dk H0 F0 F σ H env st) (hl : σ'.length = env'.length) (h : ∀ (i : Nat) (s : Sl), env'[i]? = some s → s = .un ∨ (env[i]? = some s ∧ σ'[i]? = σ[i]?)) : Good K dk H0 F0 F σ' H env' st := by
  refine ⟨g.wd, g.ext, hl, fun i s e => ?_, fun i j ds es p hne e1 e2 e3 => ?_⟩
  · rcases h i s e with z | ⟨z1, z2⟩
    · subst z; trivial
    · rw [z2]; exact g.sl i s z1
  · rcases h i _ e1 with z | ⟨z1, z2⟩
    · cases z
    · rcases h j _ e2 with z | ⟨y1, y2⟩
      · cases z
      · rw [z2] at e3; rw [y2]; exact g.dis i j ds es p hne z1 y1 e3
noncomputable def nxM : MS := fun env st => some (.nx env, st)
theorem is_next : ImS K tNext nxM := fun dk H0 F0 F σ H env st fl st' g e E h => by
  cases e
  exact h F σ H (Le.refl F) g
noncomputable def seqM (f h : MS) : MS := fun env st => (f env st).bind fun p => match p.1 with
  | .nx e => h e p.2
  | fl => some (fl, p.2)
theorem is_seq {t u : TS} {f h : MS} (h1 : ImS K t f) (h2 : ImS K u h) : ImS K (tSeq t u) (seqM f h) := fun dk H0 F0 F σ H env st fl st' g e E hd => by
  obtain ⟨⟨fl1, s1⟩, e1, e⟩ := bnd e
  cases fl1 with
  | nx env1 => exact h1 dk H0 F0 F σ H env st _ s1 g e1 _ fun F1 σ1 H1 le1 g1 => h2 dk H0 F0 F1 σ1 H1 env1 s1 fl st' g1 e E (hd.mono le1)
  | rt d => cases e; exact h1 dk H0 F0 F σ H env st _ s1 g e1 _ hd
  | bk d => cases e; exact h1 dk H0 F0 F σ H env st _ s1 g e1 _ hd
  | ct d => cases e; exact h1 dk H0 F0 F σ H env st _ s1 g e1 _ hd
noncomputable def retM (f : ME) : MS := fun env st => (f env st).map fun p => (.rt p.1, p.2)
theorem is_ret {te : TE} {f : ME} (h : Im K te f) : ImS K (tRet te) (retM f) := fun dk H0 F0 F σ H env st fl st' g e E hd => by
  obtain ⟨⟨d, s1⟩, e1, e⟩ := mpd e
  cases e
  exact h dk H0 F0 F σ H env st d s1 g e1 _ fun v F1 H1 x1 g1 r1 => hd v F1 H1 g1.ext g1.wd r1
noncomputable def retN : MS := fun env st => some (.rt .non, st)
noncomputable def ifS (c : MT) (f h : MS) : MS := fun env st => (c env st).bind fun p => if p.1 then f env p.2 else h env p.2
theorem is_if {c : TT} {t u : TS} {fc : MT} {f h : MS} (h0 : ImT K c fc) (h1 : ImS K t f) (h2 : ImS K u h) : ImS K (tIfS c t u) (ifS fc f h) := fun dk H0 F0 F σ H env st fl st' g e E hd => by
  obtain ⟨⟨b, s1⟩, e1, e⟩ := bnd e
  refine h0 dk H0 F0 F σ H env st b s1 g e1 _ fun F1 H1 x1 g1 => ?_
  cases b with
  | true => exact h1 dk H0 F0 F1 σ H1 env s1 fl st' g1 e E (hd.mono x1.f)
  | false => exact h2 dk H0 F0 F1 σ H1 env s1 fl st' g1 e E (hd.mono x1.f)
noncomputable def dropM (f : ME) : MS := fun env st => (f env st).map fun p => (.nx env, p.2)
theorem is_drop {te : TE} {f : ME} (h : Im K te f) : ImS K (tDrop te) (dropM f) := fun dk H0 F0 F σ H env st fl st' g e E hd => by
  obtain ⟨⟨d, s1⟩, e1, e⟩ := mpd e
  cases e
  exact h dk H0 F0 F σ H env st d s1 g e1 _ fun v F1 H1 x1 g1 r1 => hd F1 σ H1 x1.f g1
noncomputable abbrev MG := D → Sg → Option Sg
structure Tg (is : List Nat) (σ σ' : L2.St) (env env' : Sg) : Prop where
  len : σ'.length = σ.length
  elen : env'.length = env.length
  same : ∀ (i : Nat), i ∉ is → σ'[i]? = σ[i]? ∧ env'[i]? = env[i]?
noncomputable def ImG [WW] (K : Fg) (g : TG) (t : MG) (is : List Nat) : Prop := ∀ (dk : Dk) (H0 : Hp) (F0 F : Fz) (σ : L2.St) (H : Hp) (env : Sg) (st : S) (v : V) (d : D) (env' : Sg), Good K dk H0 F0 F σ H env st → Rp K dk F v d → t d env = some env' →
  ∀ Q : L2.St → Hp → Prop, (∀ σ', Good K dk H0 F0 F σ' H env' st → Tg is σ σ' env env' → Q σ' H) → g v σ H Q
noncomputable def ImGs [WW] (K : Fg) (g : TGs) (t : List D → Sg → Option Sg) (is : List Nat) : Prop := ∀ (dk : Dk) (H0 : Hp) (F0 F : Fz) (σ : L2.St) (H : Hp) (env : Sg) (st : S) (vs : List V) (ds : List D) (env' : Sg), Good K dk H0 F0 F σ H env st → Rps K dk F vs ds → t ds env = some env' →
  ∀ Q : L2.St → Hp → Prop, (∀ σ', Good K dk H0 F0 F σ' H env' st → Tg is σ σ' env env' → Q σ' H) → g vs σ H Q
noncomputable def nameT (i : Nat) : MG := fun d env => some (env.set i (.val d))
theorem ig_name (i : Nat) : ImG K (gName i) (nameT i) [i] := fun dk H0 F0 F σ H env st v d env' g r e Q q => by
  cases e
  refine q _ (g.set r) ⟨List.length_set, List.length_set, fun j hj => ?_⟩
  have hj' : i ≠ j := fun z => hj (by simp [z])
  exact ⟨List.getElem?_set_ne hj', List.getElem?_set_ne hj'⟩
noncomputable def nilT : List D → Sg → Option Sg
  | [], env => some env
  | _, _ => none
noncomputable def consT (t : MG) (u : List D → Sg → Option Sg) : List D → Sg → Option Sg
  | d :: ds, env => (t d env).bind fun e => u ds e
  | _, _ => none
theorem igs_nil : ImGs K gNil nilT [] := fun dk H0 F0 F σ H env st vs ds env' g r e Q q => by
  unfold nilT at e
  split at e
  · cases e
    cases r
    exact ⟨rfl, q σ g ⟨rfl, rfl, fun _ _ => ⟨rfl, rfl⟩⟩⟩
  · cases e
theorem igs_cons {g : TG} {gs : TGs} {t : MG} {u : List D → Sg → Option Sg} {is js : List Nat} (h1 : ImG K g t is) (h2 : ImGs K gs u js) : ImGs K (gCons g gs) (consT t u) (is ++ js) := fun dk H0 F0 F σ H env st vs ds env' gd r e Q q => by
  unfold consT at e
  split at e
  · obtain ⟨e1, h3, h4⟩ := bnd e
    cases r with
    | cons a b =>
      refine ⟨_, _, rfl, h1 dk H0 F0 F σ H env st _ _ e1 gd a h3 _ fun σ1 g1 t1 => ?_⟩
      refine h2 dk H0 F0 F σ1 H e1 st _ _ env' g1 b h4 _ fun σ2 g2 t2 => q σ2 g2 ⟨t2.len.trans t1.len, t2.elen.trans t1.elen, fun i hi => ?_⟩
      have a1 := t1.same i fun z => hi (List.mem_append_left _ z)
      have a2 := t2.same i fun z => hi (List.mem_append_right _ z)
      exact ⟨a2.1.trans a1.1, a2.2.trans a1.2⟩
  · cases e
noncomputable def tupT (n : Nat) (u : List D → Sg → Option Sg) : MG := fun d env => match d with
  | .tup ds => if ds.length = n then u ds env else none
  | _ => none
theorem ig_tup {gs : TGs} {u : List D → Sg → Option Sg} {js : List Nat} {n : Nat} (h : ImGs K gs u js) : ImG K (gTup K n gs) (tupT n u) js := fun dk H0 F0 F σ H env st v d env' g r e Q q => by
  unfold tupT at e
  split at e
  · split at e
    · rename_i hn
      cases r with
      | tup h1 h2 =>
        exact ⟨_, _, rfl, g.wd.sub.sqT h1, by rw [h2.length]; exact hn, h dk H0 F0 F σ H env st _ _ env' g h2 e Q q⟩
    · cases e
  · cases e
noncomputable def asgM (t : MG) (f : ME) : MS := fun env st => (f env st).bind fun p => (t p.1 env).map fun e => (.nx e, p.2)
theorem is_asg {te : TE} {g : TG} {t : MG} {f : ME} {is : List Nat} (h : Im K te f) (hg : ImG K g t is) : ImS K (tAsg te g) (asgM t f) := fun dk H0 F0 F σ H env st fl st' gd e E hd => by
  obtain ⟨⟨d, s1⟩, e1, e⟩ := bnd e
  obtain ⟨en, e2, e⟩ := mpd e
  cases e
  refine h dk H0 F0 F σ H env st d s1 gd e1 _ fun v F1 H1 x1 g1 r1 => ?_
  exact hg dk H0 F0 F1 σ H1 env s1 v d en g1 r1 e2 _ fun σ' g2 _ => hd F1 σ' H1 x1.f g2
/-- a new list for a name that will change it -/
noncomputable def ownM (i : Nat) (f : MA) : MS := fun env st => (f env st).map fun p => (.nx (env.set i (.own (.lst, p.1))), p.2)
theorem is_own {te : TE} {f : MA} (i : Nat) (h : ImF K te f) : ImS K (tAsg te (gName i)) (ownM i f) := fun dk H0 F0 F σ H env st fl st' g e E hd => by
  obtain ⟨⟨ds, s1⟩, e1, e⟩ := mpd e
  cases e
  refine h dk H0 F0 F σ H env st ds s1 g e1 _ fun p vs F1 H1 x1 g1 hp fp hl r => ?_
  have nd := g.nedk hp
  exact hd F1 _ H1 x1.f (g1.setO (ds := (.lst, ds)) hl fp (g.fresh0 hp) nd.1 nd.2 (g.noown hp) r)
/-- a, b = e1, e2 -/
noncomputable def two (i j : Nat) (env : Sg) : List D → Option Sg
  | [d, e] => some ((env.set i (.val d)).set j (.val e))
  | _ => none
noncomputable def parM (i j : Nat) (fa : MA) : MS := fun env st => (fa env st).bind fun p => (two i j env p.1).map fun e => (.nx e, p.2)
theorem is_par {ta : TA} {fa : MA} (i j : Nat) (h : ImA K ta fa) : ImS K (tPar i j ta) (parM i j fa) := fun dk H0 F0 F σ H env st fl st' g e E hd => by
  obtain ⟨⟨ds, s1⟩, e1, e⟩ := bnd e
  obtain ⟨en, e2, e⟩ := mpd e
  cases e
  refine h dk H0 F0 F σ H env st ds s1 g e1 _ fun vs F1 H1 x1 g1 r1 => ?_
  replace e2 : two i j env ds = some en := e2
  unfold two at e2
  split at e2
  · cases e2
    cases r1 with
    | cons a b => cases b with
      | cons b c =>
        cases c
        exact ⟨_, _, rfl, hd F1 _ H1 x1.f ((g1.set a).set b)⟩
  · cases e2
/-- x op= e -/
noncomputable def augM (i : Nat) (op : D → D → Option D) (f : ME) : MS := fun env st => match env[i]? with
  | some (.val x) => (f env st).bind fun p => (op x p.1).map fun z => (.nx (env.set i (.val z)), p.2)
  | _ => none
/-- a name's own list is changed no more -/
noncomputable def frzE (i : Nat) (env : Sg) : Sg := match env[i]? with
  | some (.own (.lst, ds)) => env.set i (.val (.lst ds))
  | some (.own (.dic ks, ds)) => env.set i (.val (.dic ks ds))
  | _ => env
noncomputable def frzM (i : Nat) (f : MS) : MS := fun env st => f (frzE i env) st
/-- x.append(e), x.extend(e) of a name's own list -/
noncomputable def appM (i : Nat) (f : ME) : MS := fun env st => match env[i]? with
  | some (.own (.lst, ds)) => if ds.length < sizeLine then (f env st).map fun p => (.nx (env.set i (.own (.lst, ds ++ [p.1]))), p.2) else none
  | _ => none
theorem is_app {te : TE} {f : ME} (i : Nat) (h : Im K te f) : ImS K (tDrop (tBM K "list" rAppend (tVar i) (tCons te tNil))) (appM i f) := fun dk H0 F0 F σ H env st fl st' g e E hd => by
  unfold appM at e
  split at e
  · rename_i ds he
    split at e
    · rename_i hz
      obtain ⟨⟨d, s1⟩, e1, e⟩ := mpd e
      cases e
      obtain ⟨p, vs, h1, h2, h3, h4, h5, h6, h7⟩ := g.sl i _ he
      refine ⟨.ref p, join_eq h1, .inl ⟨rfl, vs, SqL.of h2⟩, ?_⟩
      refine h dk H0 F0 F σ H env st d s1 g e1 _ fun v F1 H1 x1 g1 r1 => ?_
      refine ⟨p, vs, v, rfl, rfl, x1.h _ _ h2 h5 h6 (.inl h3.2), by rw [h7.length]; exact hz, ?_⟩
      exact hd F1 σ _ x1.f (g1.mut (ds' := (.lst, _)) he (join_eq h1) upd_same ((h7.mono x1.f).append (Rps.one r1)))
    · cases e
  · cases e
noncomputable def lstOf : D → Option (List D)
  | .lst ds => some ds
  | _ => none
noncomputable def extM (i : Nat) (f : ME) : MS := fun env st => match env[i]? with
  | some (.own (.lst, ds)) => (f env st).bind fun p => (lstOf (dr p.2 p.1)).bind fun es => if ds.length + es.length ≤ sizeLine then some (.nx (env.set i (.own (.lst, ds ++ es))), p.2) else none
  | _ => none
end
end MD
set_option Elab.async false
set_option linter.all false
set_option maxRecDepth 100000
set_option maxHeartbeats 1000000
namespace MD
open PySem L2
variable {ww : WW}
noncomputable abbrev MI := Sg → S → Option (List D × S)
/-- the walk goes through these data, whatever is laid meanwhile -/
noncomputable def Stdy [WW] (K : Fg) (dk : Dk) (F : Fz) (J : It) (ds : List D) : Prop := ∀ (F1 : Fz) (H1 : Hp) (st : S), Le F F1 → Wd K dk F1 H1 st → ∀ i : Nat,
  (∀ d, ds[i]? = some d → J.go i H1 ∧ ∀ x H2, J.yld i H1 x H2 → ∃ F2, Px F1 H1 F2 H2 ∧ Rp K dk F2 x d) ∧ (ds.length ≤ i → J.stop i H1)
noncomputable def ImI [WW] (K : Fg) (wi : TI) (f : MI) : Prop := ∀ (dk : Dk) (H0 : Hp) (F0 F : Fz) (σ : L2.St) (H : Hp) (env : Sg) (st : S) (ds : List D) (st' : S), Good K dk H0 F0 F σ H env st → f env st = some (ds, st') →
  ∀ R : It → Hp → Prop, (∀ J F' H', Ext dk F H F' H' → Good K dk H0 F0 F' σ H' env st' → Stdy K dk F' J ds → R J H') → wi σ H R
section
variable {K : Fg} {dk : Dk} {F F' F0 : Fz} {H H' H0 : Hp} {σ : L2.St} {env : Sg} {st : S}
theorem Stdy.mono {J : It} {ds : List D} (le : Le F F') (h : Stdy K dk F J ds) : Stdy K dk F' J ds := fun F1 H1 st l w => h F1 H1 st (le.trans l) w
noncomputable def forL (t : MG) (b : MS) : List D → MS
  | [], env, st => some (.nx env, st)
  | d :: ds, env, st => (t d env).bind fun env1 => (b env1 st).bind fun p => match p.1 with
    | .nx e => forL t b ds e p.2
    | .ct e => forL t b ds e p.2
    | .bk e => some (.nx e, p.2)
    | .rt r => some (.rt r, p.2)
noncomputable def forM (it : MI) (t : MG) (b : MS) : MS := fun env st => (it env st).bind fun p => forL t b p.1 env p.2
theorem is_for {wi : TI} {g : TG} {tb : TS} {it : MI} {t : MG} {b : MS} {is : List Nat} (hi : ImI K wi it) (hg : ImG K g t is) (hb : ImS K tb b) : ImS K (tFor wi g tb) (forM it t b) := fun dk H0 F0 F σ H env st fl st' gd e E hd => by
  obtain ⟨⟨ds, s1⟩, e1, e⟩ := bnd e
  refine hi dk H0 F0 F σ H env st ds s1 gd e1 _ fun J F1 H1 x1 g1 sd => ?_
  have hd1 := hd.mono x1.f
  let P : Nat → L2.St → Hp → Prop := fun i σ H => ∃ F2 env st, Le F1 F2 ∧ Good K dk H0 F0 F2 σ H env st ∧ forL t b (ds.drop i) env st = some (fl, st')
  refine ⟨fun i m σ H => m = ds.length - i ∧ i ≤ ds.length ∧ P i σ H, ⟨_, rfl, Nat.zero_le _, F1, env, s1, Le.refl F1, g1, e⟩, ?_⟩
  rintro i m σ2 H2 ⟨rfl, hle, F2, env2, s2, le2, g2, e2⟩
  by_cases hlt : i < ds.length
  · have hdi : ds[i]? = some ds[i] := List.getElem?_eq_getElem hlt
    obtain ⟨hgo, hy⟩ := (sd F2 H2 s2 le2 g2.wd i).1 _ hdi
    refine .inr ⟨hgo, P (i + 1), fun σ' H' hp => ⟨_, by omega, rfl, hlt, hp⟩, fun x H3 hx => ?_⟩
    obtain ⟨F3, px, rx⟩ := hy x H3 hx
    have g3 := g2.px px
    rw [List.drop_eq_getElem_cons hlt] at e2
    obtain ⟨env3, e3, e2⟩ := bnd e2
    obtain ⟨⟨fl3, s3⟩, e4, e2⟩ := bnd e2
    refine hg dk H0 F0 F3 σ2 H3 env2 s2 x _ env3 g3 rx e3 _ fun σ4 g4 _ => ?_
    refine hb dk H0 F0 F3 σ4 H3 env3 s2 fl3 s3 g4 e4 _ ?_
    cases fl3 with
    | nx e5 => exact fun F5 σ5 H5 l5 g5 => ⟨F5, e5, s3, (le2.trans px.f).trans l5, g5, e2⟩
    | ct e5 => exact fun F5 σ5 H5 l5 g5 => ⟨F5, e5, s3, (le2.trans px.f).trans l5, g5, e2⟩
    | bk e5 =>
      cases e2
      exact fun F5 σ5 H5 l5 g5 => hd1 F5 σ5 H5 ((le2.trans px.f).trans l5) g5
    | rt r =>
      cases e2
      exact hd1
  · have ei : i = ds.length := by omega
    subst ei
    rw [List.drop_length] at e2
    cases e2
    exact .inl ⟨(sd F2 H2 _ le2 g2.wd ds.length).2 (Nat.le_refl _), hd1 F2 σ2 H2 le2 g2⟩
noncomputable def wipeE (env : Sg) : List Nat → Sg
  | [] => env
  | v :: vs => (wipeE env vs).set v .un
theorem wipeE_length (env : Sg) : ∀ vs : List Nat, (wipeE env vs).length = env.length
  | [] => rfl
  | v :: vs => by unfold wipeE; rw [List.length_set, wipeE_length env vs]
theorem wipeE_get {env : Sg} {i : Nat} {s : Sl} : ∀ {vs : List Nat}, (wipeE env vs)[i]? = some s → s = .un ∨ (env[i]? = some s ∧ i ∉ vs)
  | [], h => .inr ⟨h, by simp⟩
  | v :: vs, h => by
    unfold wipeE at h
    by_cases hi : v = i
    · subst hi
      by_cases hv : v < (wipeE env vs).length
      · rw [List.getElem?_set_self hv] at h; cases h; exact .inl rfl
      · rw [List.getElem?_eq_none (by rw [List.length_set]; omega)] at h; cases h
    · rw [List.getElem?_set_ne hi] at h
      rcases wipeE_get h with z | ⟨z1, z2⟩
      · exact .inl z
      · exact .inr ⟨z1, by simp only [List.mem_cons, not_or]; exact ⟨fun e => hi e.symm, z2⟩⟩
theorem wipe_off {σ : L2.St} {i : Nat} : ∀ {vs : List Nat}, i ∉ vs → (wipe σ vs)[i]? = σ[i]?
  | [], _ => rfl
  | v :: vs, h => by
    unfold wipe
    have hi : v ≠ i := fun e => h (by simp [e])
    rw [List.getElem?_set_ne hi]
    exact wipe_off fun z => h (List.mem_cons_of_mem _ z)
theorem wipe_in {σ : L2.St} {i : Nat} : ∀ {vs : List Nat}, i ∈ vs → (wipe σ vs)[i]? = if i < σ.length then some none else none
  | [], h => by cases h
  | v :: vs, h => by
    unfold wipe
    by_cases hi : v = i
    · subst hi
      by_cases hv : v < σ.length
      · rw [List.getElem?_set_self (by rw [wipe_length]; exact hv), if_pos hv]
      · rw [List.getElem?_eq_none (by rw [List.length_set, wipe_length]; omega), if_neg hv]
    · rw [List.getElem?_set_ne hi]
      rcases List.mem_cons.mp h with e | e
      · exact absurd e.symm hi
      · exact wipe_in e
theorem wipe_eq {σ σ' : L2.St} {vs : List Nat} (hl : σ'.length = σ.length) (h : ∀ i : Nat, i ∉ vs → σ'[i]? = σ[i]?) : wipe σ' vs = wipe σ vs := by
  apply List.ext_getElem?
  intro i
  by_cases hi : i ∈ vs
  · rw [wipe_in hi, wipe_in hi, hl]
  · rw [wipe_off hi, wipe_off hi]; exact h i hi
theorem wipe_wipe {σ : L2.St} {vs : List Nat} : wipe (wipe σ vs) vs = wipe σ vs := wipe_eq (wipe_length σ vs) fun i hi => wipe_off hi
theorem Good.wiped {vs : List Nat} (g : Good K dk H0 F0 F σ H env st) : Good K dk H0 F0 F (wipe σ vs) H (wipeE env vs) st :=
  g.reslot (by rw [wipe_length, wipeE_length]; exact g.len) fun i s e => by
    rcases wipeE_get e with z | ⟨z1, z2⟩
    · exact .inl z
    · exact .inr ⟨z1, wipe_off z2⟩
noncomputable def compL (t : MG) (c : MT) (f : ME) (env : Sg) : List D → S → Option (List D × S)
  | [], st => some ([], st)
  | d :: ds, st => (t d env).bind fun e => (c e st).bind fun p => if p.1 then (f e p.2).bind fun q => (compL t c f env ds q.2).map fun r => (q.1 :: r.1, r.2) else compL t c f env ds p.2
noncomputable def compM (it : MI) (t : MG) (c : MT) (f : ME) (vs : List Nat) : MA := fun env st => (it env st).bind fun p => if p.1.length ≤ sizeLine then compL t c f (wipeE env vs) p.1 p.2 else none
noncomputable def yesM : MT := fun _ st => some (true, st)
theorem it_yes : ImT K tYes yesM := fun dk H0 F0 F σ H env st b st' g e Q q => by
  cases e
  exact q F H (Ext.refl F H) g
theorem if_comp {wi : TI} {g : TG} {tt : TT} {te : TE} {vs : List Nat} {it : MI} {t : MG} {c : MT} {f : ME} {is : List Nat} (hi : ImI K wi it) (hg : ImG K g t is) (ht : ImT K tt c) (he : Im K te f) (hv : ∀ i ∈ is, i ∈ vs) :
    ImF K (tLc wi g tt te vs) (compM it t c f vs) := fun dk H0 F0 F σ H env st out st' gd e Q q => by
  obtain ⟨⟨ds, s1⟩, e1, e⟩ := bnd e
  replace e : (if ds.length ≤ sizeLine then compL t c f (wipeE env vs) ds s1 else none) = some (out, st') := e
  split at e
  · rename_i hz
    refine hi dk H0 F0 F σ H env st ds s1 gd e1 _ fun J F1 H1 x1 g1 sd Dn hD => ?_
    have hDH : H Dn = none := by
      cases w : H Dn with
      | none => rfl
      | some o => exact absurd hD (x1.m Dn (by rw [w]; exact fun z => nomatch z))
    have nd := g1.nedk hD
    have h0D := g1.fresh0 hD
    have noD := g1.noown hD
    have noW : ∀ (j : Nat) (es : Own), (wipeE env vs)[j]? = some (.own es) → (wipe σ vs)[j]? ≠ some (some (.ref Dn)) := fun j es e => by
      rcases wipeE_get e with z | ⟨z1, z2⟩
      · cases z
      · rw [wipe_off z2]; exact noD j es z1
    let P : Nat → Hp → Prop := fun i H => ∃ F2 st2 acc done rest, Le F1 F2 ∧ Ext dk F1 H1 F2 H ∧ Good K dk H0 F0 F2 (wipe σ vs) H (wipeE env vs) st2 ∧ H Dn = some (.lst acc) ∧ F2.out Dn ∧ acc.length ≤ i ∧ Rps K dk F2 acc done ∧
      compL t c f (wipeE env vs) (ds.drop i) st2 = some (rest, st') ∧ done ++ rest = out
    have px0 : Px F1 H1 F1 (upd H1 Dn (.lst [])) := Px.lay g1.wd.sub hD
    refine ⟨fun i m H => m = ds.length - i ∧ i ≤ ds.length ∧ P i H, ⟨_, rfl, Nat.zero_le _, F1, s1, [], [], out, Le.refl F1, px0.ext, (g1.wiped).px px0, upd_same, g1.wd.out hD, Nat.zero_le _, .nil, e, rfl⟩, ?_⟩
    rintro i m H2 ⟨rfl, hle, F2, s2, acc, done, rest, le2, x2, g2, hacc, f2, hal, racc, e2, eo⟩
    by_cases hlt : i < ds.length
    · have hdi : ds[i]? = some ds[i] := List.getElem?_eq_getElem hlt
      obtain ⟨hgo, hy⟩ := (sd F2 H2 s2 le2 g2.wd i).1 _ hdi
      refine .inr ⟨hgo, P (i + 1), fun H' hp => ⟨_, by omega, rfl, hlt, hp⟩, fun x H3 hx => ?_⟩
      obtain ⟨F3, px, rx⟩ := hy x H3 hx
      have g3 := g2.px px
      rw [List.drop_eq_getElem_cons hlt] at e2
      obtain ⟨env3, e3, e2⟩ := bnd e2
      obtain ⟨⟨b, s4⟩, e4, e2⟩ := bnd e2
      refine hg dk H0 F0 F3 (wipe σ vs) H3 (wipeE env vs) s2 x _ env3 g3 rx e3 _ fun σ4 g4 tg => ?_
      have same : ∀ j : Nat, j ∉ vs → σ4[j]? = (wipe σ vs)[j]? ∧ env3[j]? = (wipeE env vs)[j]? := fun j hj => tg.same j fun z => hj (hv j z)
      have weq : wipe σ4 vs = wipe σ vs := by
        rw [wipe_eq tg.len fun j hj => (same j hj).1, wipe_wipe]
      have nD3 : H2 Dn ≠ none := by rw [hacc]; exact fun z => nomatch z
      have back : ∀ {F5 : Fz} {H5 : Hp} {st5 : S}, Good K dk H0 F0 F5 σ4 H5 env3 st5 → Good K dk H0 F0 F5 (wipe σ vs) H5 (wipeE env vs) st5 := fun {F5 H5 st5} g5 =>
        g5.reslot (by rw [wipe_length, wipeE_length]; exact gd.len) fun j s es => by
          rcases wipeE_get es with z | ⟨z1, z2⟩
          · exact .inl z
          · exact .inr ⟨(same j z2).2.trans es, (same j z2).1.symm⟩
      refine ⟨weq, ?_⟩
      refine ht dk H0 F0 F3 σ4 H3 env3 s2 b s4 g4 e4 _ fun F5 H5 x5 g5 => ?_
      have x25 : Ext dk F2 H2 F5 H5 := px.ext.trans x5
      have a5 : H5 Dn = some (.lst acc) := x25.h _ _ hacc nd.1 nd.2 (.inl f2.2)
      have f5 : F5.out Dn := x25.out f2 nD3
      cases b with
      | false =>
        exact ⟨F5, s4, acc, done, rest, le2.trans x25.f, x2.trans x25, back g5, a5, f5, by omega, racc.mono x25.f, e2, eo⟩
      | true =>
        replace e2 : ((f env3 s4).bind fun q => (compL t c f (wipeE env vs) (ds.drop (i + 1)) q.2).map fun r => (q.1 :: r.1, r.2)) = some (rest, st') := e2
        obtain ⟨⟨y, s6⟩, e6, e2⟩ := bnd e2
        obtain ⟨⟨rest', s7⟩, e7, e2⟩ := mpd e2
        cases e2
        refine he dk H0 F0 F5 σ4 H5 env3 s4 y s6 g5 e6 _ fun v F6 H6 x6 g6 r6 => ?_
        have x26 := x25.trans x6
        have a6 : H6 Dn = some (.lst acc) := x26.h _ _ hacc nd.1 nd.2 (.inl f2.2)
        have f6 : F6.out Dn := x26.out f2 nD3
        refine ⟨acc, a6, by omega, F6, s6, acc ++ [v], done ++ [y], rest', le2.trans x26.f, ?_, (back g6).mutT a6 f6 h0D nd.1 nd.2 noW, upd_same, f6, by simp; omega, (racc.mono x26.f).append (Rps.one r6), e7, by rw [← eo]; simp⟩
        exact (x2.trans x26).upd hD
    · have ei : i = ds.length := by omega
      subst ei
      rw [List.drop_length] at e2
      cases e2
      refine .inl ⟨(sd F2 H2 _ le2 g2.wd ds.length).2 (Nat.le_refl _), ?_⟩
      rw [List.append_nil] at eo
      subst eo
      have g9 : Good K dk H0 F0 F2 σ H2 env st' := by
        have gx := g1.step x2 g2.wd
        exact gx
      exact q Dn acc F2 H2 (x1.trans x2) g9 hDH f2 hacc racc
  · cases e
end
end MD
set_option Elab.async false
set_option linter.all false
set_option maxRecDepth 100000
set_option maxHeartbeats 2000000
namespace MD
open PySem L2
variable {ww : WW}
section
variable {K : Fg} {dk : Dk} {F F' F0 : Fz} {H H' H0 : Hp} {σ : L2.St} {env : Sg} {st : S}
noncomputable def rngD (lo : Int) (n : Nat) : List D := (List.range n).map fun k => .int (lo + (k : Nat))
theorem rngD_get {lo : Int} {n i : Nat} {d : D} (h : (rngD lo n)[i]? = some d) : i < n ∧ d = .int (lo + (i : Nat)) := by
  unfold rngD at h
  rw [List.getElem?_map] at h
  obtain ⟨k, h1, h2⟩ := mpd h
  have hi : i < n := by
    by_cases hl : i < n
    · exact hl
    · rw [List.getElem?_eq_none (by rw [List.length_range]; omega)] at h1; cases h1
  rw [List.getElem?_range hi] at h1
  cases h1
  exact ⟨hi, h2.symm⟩
theorem stdy_rng (lo : Int) (n : Nat) : Stdy K dk F (Itr lo n) (rngD lo n) := fun F1 H1 st le w i => by
  refine ⟨fun d hd => ?_, fun hl => ?_⟩
  · obtain ⟨h1, rfl⟩ := rngD_get hd
    refine ⟨h1, fun x H2 hy => ?_⟩
    obtain ⟨e1, e2⟩ := hy
    subst e1 e2
    exact ⟨F1, Px.refl w.sub, .int _⟩
  · show n ≤ i
    unfold rngD at hl
    simpa using hl
noncomputable def r1M (a : MA) : MI := fun env st => (a env st).bind fun p => match p.1 with
  | [.int j] => if -(2 ^ 62) ≤ j ∧ j < 2 ^ 62 then some (rngD 0 j.toNat, p.2) else none
  | _ => none
theorem ii_range1 {ta : TA} {a : MA} (h : ImAW K ta a) : ImI K (iRng1 ta) (r1M a) := fun dk H0 F0 F σ H env st ds st' g e R q => by
  obtain ⟨⟨xs, s1⟩, h1, e⟩ := bnd e
  refine h dk H0 F0 F σ H env st xs s1 g h1 _ fun vs F1 H1 x1 g1 r1 => ?_
  dsimp only at e
  split at e
  · split at e
    · rename_i j hj
      cases e
      obtain ⟨v, rfl, r⟩ := r1.ws.one
      cases r.int
      exact ⟨j, rfl, hj.1, hj.2, q _ F1 H1 x1 g1 (stdy_rng 0 j.toNat)⟩
    · cases e
  · cases e
noncomputable def r2M (a : MA) : MI := fun env st => (a env st).bind fun p => match p.1 with
  | [.int i, .int j] => if -(2 ^ 62) ≤ i ∧ i < 2 ^ 62 ∧ -(2 ^ 62) ≤ j ∧ j < 2 ^ 62 then some (rngD i (j - i).toNat, p.2) else none
  | _ => none
theorem stdy_list {a : Addr} {vs : List V} {ds : List D} (h : F a = some (.lst vs)) (r : Rps K dk F vs ds) : Stdy K dk F (Itl K a) ds := fun F1 H1 st le w i => by
  have hq : SqL K H1 a vs := SqL.of (w.sub.lst (le.h _ _ h))
  refine ⟨fun d hd => ?_, fun hl => ⟨vs, hq, by rw [r.length]; exact hl⟩⟩
  obtain ⟨v, h1, h2⟩ := r.get hd
  refine ⟨⟨vs, v, hq, h1⟩, fun x H2 hy => ?_⟩
  obtain ⟨e1, e2⟩ := hy
  subst e1
  have ev := e2 vs hq
  rw [h1] at ev
  cases ev
  exact ⟨F1, Px.refl w.sub, h2.mono le⟩
theorem stdy_tup {a : Addr} {vs : List V} {ds : List D} (h : SqT K F a vs) (r : Rps K dk F vs ds) : Stdy K dk F (Itt K a) ds := fun F1 H1 st le w i => by
  have hq : SqT K H1 a vs := w.sub.sqT (le.sqT h)
  refine ⟨fun d hd => ?_, fun hl => ⟨vs, hq, by rw [r.length]; exact hl⟩⟩
  obtain ⟨v, h1, h2⟩ := r.get hd
  refine ⟨⟨vs, v, hq, h1⟩, fun x H2 hy => ?_⟩
  obtain ⟨e1, e2⟩ := hy
  subst e1
  have ev := e2 vs hq
  rw [h1] at ev
  cases ev
  exact ⟨F1, Px.refl w.sub, h2.mono le⟩
theorem signs_get {x : Str} {i : Nat} {d : D} (h : ((signs x).map D.str)[i]? = some d) : ∃ c, x.cps[i]? = some c ∧ d = .str ⟨#[c]⟩ := by
  unfold signs at h
  rw [List.map_map, List.getElem?_map] at h
  obtain ⟨c, h1, h2⟩ := mpd h
  exact ⟨c, by simpa using h1, h2.symm⟩
theorem signs_len (x : Str) : ((signs x).map D.str).length = x.cps.size := by
  unfold signs
  simp
theorem stdy_str (x : Str) : Stdy K dk F (Its x) ((signs x).map D.str) := fun F1 H1 st le w i => by
  refine ⟨fun d hd => ?_, fun hl => by rw [signs_len] at hl; exact hl⟩
  obtain ⟨c, h1, rfl⟩ := signs_get hd
  refine ⟨?_, fun y H2 hy => ?_⟩
  · show i < x.cps.size
    by_cases hl : i < x.cps.size
    · exact hl
    · rw [Array.getElem?_eq_none (by omega)] at h1; cases h1
  · obtain ⟨e1, c', h2, e2⟩ := hy
    subst e1 e2
    rw [h1] at h2
    cases h2
    exact ⟨F1, Px.refl w.sub, .str _⟩
noncomputable def iSeq (K : Fg) (te : TE) : TI := fun σ H R => te σ H fun x H1 =>
  (∃ a, x = .ref a ∧ (∃ xs, SqL K H1 a xs) ∧ R (Itl K a) H1) ∨ (∃ a, x = .ref a ∧ (∃ xs, SqT K H1 a xs) ∧ R (Itt K a) H1) ∨ ∃ y, x = .str y ∧ R (Its y) H1
theorem pi_seq {X : Cx} {tg e : Expr} {te : TE} (he : PE X e te) : PI X tg e (iSeq X.K te) := by
  constructor
  intro pins s σ H R I h
  refine thn (he.run pins s σ H _ I h) fun v s1 h1 => ?_
  obtain ⟨x, H1, I1, r1, q1⟩ := h1
  rcases q1 with ⟨a, rfl, ⟨xs, hq⟩, q⟩ | ⟨a, rfl, ⟨xs, hq⟩, q⟩ | ⟨y, rfl, q⟩
  · cases r1
    obtain ⟨its, _, pl, _⟩ := I1.list hq
    exact wpAny_pyIter_list pl.isList (pi_one (tk := s1.toks) I1 _ (turn_list a _) ⟨_, Heap.get?_push_size _ rfl, rfl, rfl⟩ q)
  · cases r1
    obtain ⟨its, _, pl, _⟩ := I1.tuple hq
    exact wpAny_pyIter_tuple (show s1.heap.IsTuple a its.toArray from pl) (pi_one (tk := s1.toks) I1 _ (turn_tuple a _) ⟨_, Heap.get?_push_size _ rfl, rfl, rfl⟩ q)
  · obtain ⟨t, rfl⟩ := r1
    cases ha : y.cps.all (· < 128)
    · exact wpAny_pyIter_wide ha (pi_one (tk := s1.toks) I1 _ (turn_str _ y t "str_iterator" (.inr rfl)) ⟨_, Heap.get?_push_size _ rfl, rfl, rfl⟩ q)
    · exact wpAny_pyIter_ascii ha (pi_one (tk := s1.toks) I1 _ (turn_str _ y t "str_ascii_iterator" (.inl rfl)) ⟨_, Heap.get?_push_size _ rfl, rfl, rfl⟩ q)
noncomputable def seqOf : D → Option (List D)
  | .lst ds => some ds
  | .tup ds => some ds
  | .str x => some ((signs x).map D.str)
  | _ => none
noncomputable def seqI (f : ME) : MI := fun env st => (f env st).bind fun p => (seqOf p.1).map fun ds => (ds, p.2)
theorem ii_seq {te : TE} {f : ME} (h : Im K te f) : ImI K (iSeq K te) (seqI f) := fun dk H0 F0 F σ H env st ds st' g e R q => by
  obtain ⟨⟨d, s1⟩, h1, e⟩ := bnd e
  obtain ⟨es, h2, e⟩ := mpd e
  cases e
  refine h dk H0 F0 F σ H env st d s1 g h1 _ fun v F1 H1 x1 g1 r1 => ?_
  replace h2 : seqOf d = some ds := h2
  cases d with
  | lst xs =>
    cases h2
    cases r1 with
    | lst a1 a2 => exact .inl ⟨_, rfl, ⟨_, SqL.of (g1.wd.sub.lst a1)⟩, q _ F1 H1 x1 g1 (stdy_list a1 a2)⟩
  | tup xs =>
    cases h2
    cases r1 with
    | tup a1 a2 => exact .inr (.inl ⟨_, rfl, ⟨_, g1.wd.sub.sqT a1⟩, q _ F1 H1 x1 g1 (stdy_tup a1 a2)⟩)
  | str x =>
    cases h2
    cases r1
    exact .inr (.inr ⟨_, rfl, q _ F1 H1 x1 g1 (stdy_str x)⟩)
  | _ => cases h2
noncomputable def enumD (ds : List D) : List D := ds.zipIdx.map fun p => .tup [.int ((p.2 : Nat) : Int), p.1]
theorem enumD_get {ds : List D} {i : Nat} {d : D} (h : (enumD ds)[i]? = some d) : ∃ x, ds[i]? = some x ∧ d = .tup [.int ((i : Nat) : Int), x] := by
  unfold enumD at h
  rw [List.getElem?_map, List.getElem?_zipIdx] at h
  obtain ⟨p, h1, h2⟩ := mpd h
  obtain ⟨x, h3, h4⟩ := mpd h1
  subst h4
  exact ⟨x, h3, by rw [← h2]; simp⟩
theorem enumD_len (ds : List D) : (enumD ds).length = ds.length := by unfold enumD; simp
/-- items that stand fast, each in a new pair with its number -/
noncomputable def ItE (C : Hp → Prop) (xs : List V) : It := ⟨fun i H => i < xs.length ∧ C H, fun i H v H' => ∃ T x, v = .ref T ∧ H T = none ∧ H' = upd H T (.tup [.int ((i : Nat) : Int), x]) ∧ xs[i]? = some x, fun i H => xs.length ≤ i ∧ C H⟩
theorem pair_new {T : Addr} {i : Int} {x : V} {d : D} {F1 : Fz} {H1 : Hp} {st : S} (w : Wd K dk F1 H1 st) (hT : H1 T = none) (r : Rp K dk F1 x d) :
    ∃ F2, Px F1 H1 F2 (upd H1 T (.tup [.int i, x])) ∧ Rp K dk F2 (.ref T) (.tup [.int i, d]) := by
  have px : Px F1 H1 (Fz.up F1 T (.tup [.int i, x])) (upd H1 T (.tup [.int i, x])) := Px.new w.sub hT
  exact ⟨_, px, .tup (SqT.of Fz.up_same) (.cons (.int i) (.cons (r.mono px.f) .nil))⟩
theorem stdy_enumE {C : Hp → Prop} {vs : List V} {ds : List D} (hC : ∀ H1, Sb F H1 → C H1) (r : Rps K dk F vs ds) : Stdy K dk F (ItE C vs) (enumD ds) := fun F1 H1 st le w i => by
  have hc : C H1 := hC H1 (le.sb w.sub)
  refine ⟨fun d hd => ?_, fun hl => ⟨by rw [enumD_len, ← r.length] at hl; exact hl, hc⟩⟩
  obtain ⟨x, h1, rfl⟩ := enumD_get hd
  obtain ⟨v, h2, h3⟩ := r.get h1
  refine ⟨⟨?_, hc⟩, fun y H2 hy => ?_⟩
  · show i < vs.length
    by_cases hl : i < vs.length
    · exact hl
    · rw [List.getElem?_eq_none (by omega)] at h2; cases h2
  · obtain ⟨T, v', rfl, hT, rfl, e⟩ := hy
    rw [h2] at e
    cases e
    exact pair_new w hT (h3.mono le)
theorem stdy_enumL {a : Addr} {vs : List V} {ds : List D} (h : F a = some (.lst vs)) (r : Rps K dk F vs ds) : Stdy K dk F (Ite K a) (enumD ds) := fun F1 H1 st le w i => by
  have hq : SqL K H1 a vs := SqL.of (w.sub.lst (le.h _ _ h))
  refine ⟨fun d hd => ?_, fun hl => ⟨vs, hq, by rw [enumD_len, ← r.length] at hl; exact hl⟩⟩
  obtain ⟨x, h1, rfl⟩ := enumD_get hd
  obtain ⟨v, h2, h3⟩ := r.get h1
  refine ⟨⟨vs, v, hq, h2⟩, fun y H2 hy => ?_⟩
  obtain ⟨T, v', rfl, hT, rfl, e⟩ := hy
  have e' := e vs hq
  rw [h2] at e'
  cases e'
  exact pair_new w hT (h3.mono le)
/-- a turn of enumerate over what draws from it -/
theorem turnE {P : Program} {w : World} {K : Fg} {elts : List Expr} {kk : Nat} {tpos : Pos} (C : Hp → Prop) (xs : List V) (e it : Addr) (St1 : Nat → Heap → Prop)
    (fr : ∀ i h h', St1 i h → (∀ o, h.get? it = some o → h'.get? it = some o) → St1 i h')
    (ob : ∀ i h, St1 i h → ∃ o, h.get? it = some o ∧ ∀ v, o.data ≠ .cell v)
    (dr : ∀ (X : Cx), X.prog = P → X.w = w → X.K = K → X.calm = true → ∀ (i : Nat) (pins : List (Addr × Obj)) (s : Shared) (σ : L2.St) (H : Hp), Inv X pins σ H s → C H → H it = none → St1 i s.heap →
      ∃ (fp : List Addr) (St2 : Nat → Heap → Prop) (Pv : Nat → Value → Prop), Draws P w X.A.in1 it fp xs.length Pv St2 ∧ St2 i s.heap ∧ (∀ j h, St2 j h → St1 j h) ∧ (∀ b ∈ fp, b = it ∨ (∃ o, H b = some o) ∨ ∃ o, X.base.get? b = some o) ∧ ∀ j u, Pv j u → ∃ x, xs[j]? = some x ∧ RelV x u) :
    Turn P w K (.Tuple elts kk tpos) (ItE C xs) [e, it] e (fun i h => (∃ old, IsEnum h e it ((i : Nat) : Int) old) ∧ St1 i h ∧ e ≠ it ∧ i ≤ xs.length) where
  mem := List.mem_cons_self
  obj := fun i h tn b hb => by
    obtain ⟨⟨old, he⟩, hs, _⟩ := tn
    rcases List.mem_cons.mp hb with z | z
    · rw [z]; exact ⟨_, he, fun v q => nomatch q⟩
    · rw [List.mem_singleton.mp z]; exact ob i h hs
  keep := fun i h h' tn k => by
    obtain ⟨⟨old, he⟩, hs, hne, hl⟩ := tn
    exact ⟨⟨old, k e List.mem_cons_self _ he⟩, fr i h h' hs fun o q => k it (by simp) o q, hne, hl⟩
  item := by
    intro X hP hw hK hc i pins s σ H Er I hf tn hgo
    obtain ⟨hg, hC⟩ : i < xs.length ∧ C H := hgo
    obtain ⟨⟨old, he⟩, hs, hne, _⟩ := tn
    obtain ⟨fp, St2, Pv, Dw, h2, h21, hfp, hpv⟩ := dr X hP hw hK hc i pins s σ H I hC (hf it (by simp)).1 hs
    subst hP hw hK
    have hel : e < s.heap.objs.size := Heap.lt_size he
    have hil : it < s.heap.objs.size := by obtain ⟨o, q, _⟩ := ob i _ hs; exact Heap.lt_size q
    have hef : e ∉ fp := fun z => by
      rcases hfp e z with q | ⟨o, q⟩ | ⟨o, q⟩
      · exact hne q
      · rw [(hf e (by simp)).1] at q; cases q
      · have hx := (I.bs e o q).1
        obtain ⟨f0, f1, f2, f3, _⟩ := hf e (by simp)
        rcases f3 with f3 | f3
        · exact I.ok.noex e o q f3
        · exact absurd (Nat.lt_of_lt_of_le (Heap.lt_size (I.ok.bs e o q).1) f3) (Nat.lt_irrefl _)
    refine wpAny_pyNext_enum_itemD Dw he h2 hg hne hef fun u h' tk hu ho hst hT hsz hk => ?_
    obtain ⟨x, hx, ru⟩ := hpv i u hu
    refine ⟨_, rfl, wpAny_letOwnedTupleGo_enum (s := { s with heap := h', toks := tk + 1 }) ho fun h'' he' sb => ?_⟩
    have hT2 : h''.get? s.heap.objs.size = some { cls := .type "tuple", data := .seq #[.int i tk, u] } := (sb.2 _ (Nat.ne_of_gt hel)).trans hT
    have new : ObjOk X.prog X.w (upd H s.heap.objs.size (.tup [.int ((i : Nat) : Int), x])) h'' s.heap.objs.size (.tup [.int ((i : Nat) : Int), x]) := by
      refine ⟨?_, [.int i tk, u], .cons ⟨_, rfl⟩ (.cons ru .nil), ⟨_, hT2, rfl, _, rfl⟩⟩
      show 2 ≤ sizeLine
      decide
    have I1 : Inv X pins σ (upd H s.heap.objs.size (.tup [.int ((i : Nat) : Int), x])) { s with heap := h'', toks := tk + 1 } := by
      refine I.turnedNew (ch := [e, it]) (fun b o hb q => ?_) hf (Nat.le_refl _) new
      have n1 : b ≠ e := fun z => hb (by simp [z])
      have n2 : b ≠ it := fun z => hb (by simp [z])
      exact (sb.2 b n1).trans (hk b o n1 n2 q)
    refine ⟨.ref s.heap.objs.size, _, I1, rfl, ⟨_, x, rfl, I.hok.fresh (Nat.le_refl _), rfl, hx⟩, ⟨⟨u, ?_⟩, ?_, hne, hg⟩, fun b hb => ?_⟩
    · have e1 : ((i + 1 : Nat) : Int) = (i : Int) + 1 := by omega
      rw [e1]; exact he'
    · exact fr (i + 1) h' h'' (h21 _ _ hst) fun o q => (sb.2 it (Ne.symm hne)).trans q
    · have hb' : b < s.heap.objs.size := by
        rcases List.mem_cons.mp hb with z | z
        · rw [z]; exact hel
        · rw [List.mem_singleton.mp z]; exact hil
      rw [upd_ne (Nat.ne_of_lt hb')]
      exact (hf b hb).1
  done := by
    intro X hP hw hK hc i pins s σ H Er I hf tn hgo
    obtain ⟨hg, hC⟩ : xs.length ≤ i ∧ C H := hgo
    obtain ⟨⟨old, he⟩, hs, hne, hl⟩ := tn
    have ei : i = xs.length := Nat.le_antisymm hl hg
    subst ei
    obtain ⟨fp, St2, Pv, Dw, h2, h21, hfp, hpv⟩ := dr X hP hw hK hc xs.length pins s σ H I hC (hf it (by simp)).1 hs
    subst hP hw hK
    obtain ⟨f0, f1, f2, f3, f4, f5⟩ := hf it (by simp)
    exact wpAny_pyNext_enum_endD Dw he h2 fun h' eb => ⟨rfl, I.turned (t' := s.toks) (fun b o hb q => eb b o hb q) f0 f1 f3 f4 f5⟩
  self := fun A i s Q E tn h => by
    obtain ⟨⟨_, he⟩, _⟩ := tn
    exact wpAny_pyIter_enum he h
end
end MD
set_option Elab.async false
set_option linter.all false
set_option maxRecDepth 100000
set_option maxHeartbeats 2000000
namespace MD
open PySem L2
variable {ww : WW}
theorem newT (t : Addr) (items : Array Value) : Meets (Builtin.«enumerate.__new__» ⟨[.type "enumerate", .ref t], []⟩) (fun _ R s => s.heap.IsTuple t items ∧ R (.ok (.ret (.ref (s.heap.push { cls := .type "tuple_iterator", data := .fields #[.ref t, .int 0 0] }).objs.size)))
        { s with heap := (s.heap.push { cls := .type "tuple_iterator", data := .fields #[.ref t, .int 0 0] }).push { cls := .type "enumerate", data := .fields #[.none, .bool false, .ref s.heap.objs.size, rawInt 0, .none, .none] } }) :=
  .of_wp fun prog w A R s h => by
    obtain ⟨hp, g, d, tk, os⟩ := s
    obtain ⟨hL, h⟩ := h
    obtain ⟨⟨c0, dct, dt, sl⟩, hl, hc, n, hd⟩ := id hL
    have hsub := sub_enumerate
    wp_walk using AutoSeq1.wpAny_loadPart' hl
    refine wpAny_stack_any fun st => wpAny_pure ?_
    split
    · rename_i c _ _ _ _ _
      cases (c == Value.type "enumerate")
      · wp_walk using AutoSeq1.wpAny_loadPart' hl, wpAny_pyIter_tuple hL
        exact ⟨_, rfl, h⟩
      · wp_walk using AutoSeq1.wpAny_loadPart' hl, wpAny_pyIter_tuple hL
        exact ⟨_, rfl, h⟩
    · wp_walk using AutoSeq1.wpAny_loadPart' hl, wpAny_pyIter_tuple hL
      exact ⟨_, rfl, h⟩
theorem call_enumT {prog : Program} {w : World} {A : Around} {E : Value → Shared → Prop} {s : Shared} {t : Addr} {items : Array Value} {Q : Value → Shared → Prop} (hL : s.heap.IsTuple t items)
    (h : ∀ h', IsEnum h' (s.heap.objs.size + 1) s.heap.objs.size 0 .none → h'.IsTupleIter s.heap.objs.size t 0 → (∀ b o, s.heap.get? b = some o → h'.get? b = some o) → Q (.ref (s.heap.objs.size + 1)) { s with heap := h' }) :
    wpAny (model prog w) A (call (.type "enumerate") [.ref t]) Q E s := by
  refine callType_new F.called_enumerate (by decide) (F.typeCall_enumerate_1 _) (F.newCall_enumerate_1 _) (fun obj => F.args_object_init_2 obj _) F.entry_enumerate_new (newT t items) ⟨hL, ?_⟩
  have hz : (s.heap.push { cls := .type "tuple_iterator", data := .fields #[.ref t, .int 0 0] }).objs.size = s.heap.objs.size + 1 := Heap.size_push ..
  show _ ∧ _
  rw [hz]
  have he : IsEnum ((s.heap.push { cls := .type "tuple_iterator", data := .fields #[.ref t, .int 0 0] }).push { cls := .type "enumerate", data := .fields #[.none, .bool false, .ref s.heap.objs.size, rawInt 0, .none, .none] }) (s.heap.objs.size + 1) s.heap.objs.size 0 .none := by
    have q := Heap.get?_push_size (s.heap.push { cls := .type "tuple_iterator", data := .fields #[.ref t, .int 0 0] }) (o := { cls := .type "enumerate", data := .fields #[.none, .bool false, .ref s.heap.objs.size, rawInt 0, .none, .none] }) rfl
    rw [hz] at q
    exact q
  exact ⟨⟨_, he, rfl⟩, h _ he ⟨_, Heap.get?_push_of_some _ (Heap.get?_push_size _ rfl), rfl, rfl⟩ fun b o x => Heap.get?_push_of_some _ (Heap.get?_push_of_some _ x)⟩
section
variable {K : Fg} {dk : Dk} {F F' F0 : Fz} {H H' H0 : Hp} {σ : L2.St} {env : Sg} {st : S}
theorem turn_enumS {P : Program} {w : World} {elts : List Expr} {kk : Nat} {tpos : Pos} (e it : Addr) (x : Str) (t : Tok) :
    Turn P w K (.Tuple elts kk tpos) (ItE (fun _ => True) ((signs x).map V.str)) [e, it] e (fun i h => (∃ old, IsEnum h e it ((i : Nat) : Int) old) ∧ h.IsStrIter it (strIterType x) x t i ∧ e ≠ it ∧ i ≤ ((signs x).map V.str).length) := by
  refine turnE _ _ e it (fun i h => h.IsStrIter it (strIterType x) x t i) (fun i h h' st k => ?_) (fun i h st => ?_) fun X hP hw hK hc i pins s σ H I _ _ hs => ?_
  · obtain ⟨o, ho, r⟩ := st
    exact ⟨o, k o ho, r⟩
  · obtain ⟨o, ho, c, d⟩ := st
    exact ⟨o, ho, fun v z => by rw [d] at z; cases z⟩
  · have hd : X.A.in1.handled = none := I.ok.hd hc
    have hl : ((signs x).map V.str).length = x.cps.size := by unfold signs; simp
    subst hP hw
    refine ⟨[it], _, _, hl ▸ Draws.text (prog := X.prog) (w := X.w) hd it x t, hs, fun _ _ z => z, fun b hb => .inl (List.mem_singleton.mp hb), fun j u hu => ?_⟩
    obtain ⟨c, u', h1, rfl⟩ := hu
    refine ⟨.str ⟨#[c]⟩, ?_, ⟨_, rfl⟩⟩
    unfold signs
    rw [List.map_map, List.getElem?_map]
    have : x.cps.toList[j]? = some c := by simpa using h1
    rw [this]
    rfl
theorem turn_enumT {P : Program} {w : World} {elts : List Expr} {kk : Nat} {tpos : Pos} (a e it : Addr) (xs : List V) :
    Turn P w K (.Tuple elts kk tpos) (ItE (fun H => SqT K H a xs) xs) [e, it] e (fun i h => (∃ old, IsEnum h e it ((i : Nat) : Int) old) ∧ h.IsTupleIter it a i ∧ e ≠ it ∧ i ≤ xs.length) := by
  refine turnE _ _ e it (fun i h => h.IsTupleIter it a i) (fun i h h' st k => ?_) (fun i h st => ?_) fun X hP hw hK hc i pins s σ H I hq hn hs => ?_
  · obtain ⟨o, ho, r⟩ := st
    exact ⟨o, k o ho, r⟩
  · obtain ⟨o, ho, c, d⟩ := st
    exact ⟨o, ho, fun v z => by rw [d] at z; cases z⟩
  · have hd : X.A.in1.handled = none := I.ok.hd hc
    subst hP hw hK
    obtain ⟨its, rv, pt, hz⟩ := I.tuple hq
    have hl : xs.length = its.toArray.size := by rw [List.size_toArray]; exact rv.length
    have hb : (∃ o, H a = some o) ∨ ∃ o, X.base.get? a = some o := by
      rcases hq with (h | ⟨o, h⟩) | ⟨o, _, _, h, _⟩
      · exact .inl ⟨_, h⟩
      · exact .inl ⟨_, h⟩
      · exact .inr ⟨_, I.mod.kin a o h⟩
    have hai : a ≠ it := fun z => by
      obtain ⟨o, ho, c, d⟩ := hs
      obtain ⟨o2, ho2, c2, _⟩ := id pt
      rw [z, ho] at ho2
      cases ho2
      rw [c] at c2
      exact absurd c2 (by decide)
    refine ⟨[it, a], _, _, hl ▸ Draws.tuple (prog := X.prog) (w := X.w) hd it a hai its.toArray, ⟨hs, pt⟩, fun _ _ z => z.1, fun b hbm => ?_, fun j u hu => ?_⟩
    · rcases List.mem_cons.mp hbm with z | z
      · exact .inl z
      · rw [List.mem_singleton.mp z]; exact .inr hb
    · have hu' : its[j]? = some u := by simpa using hu
      have hjl : j < xs.length := by
        rw [rv.length]
        by_cases hl : j < its.length
        · exact hl
        · rw [List.getElem?_eq_none (by omega)] at hu'; cases hu'
      obtain ⟨u2, h1, h2⟩ := rv.get (List.getElem?_eq_getElem hjl)
      rw [hu'] at h1
      cases h1
      exact ⟨_, List.getElem?_eq_getElem hjl, h2⟩
noncomputable def iEnumA (K : Fg) (ta : TA) : TI := fun σ H R => ta σ H fun vs H1 => (∃ a xs, vs = [.ref a] ∧ SqL K H1 a xs ∧ R (Ite K a) H1) ∨ (∃ a xs, vs = [.ref a] ∧ SqT K H1 a xs ∧ R (ItE (fun H => SqT K H a xs) xs) H1) ∨
  ∃ y, vs = [.str y] ∧ R (ItE (fun _ => True) ((signs y).map V.str)) H1
theorem pi_enumA {X : Cx} {e : Expr} {ta : TA} {p pos tpos : Pos} {elts : List Expr} {kk : Nat} (hg : Gl X "enumerate") (hm : X.mg "enumerate" = none) (ha : PA X [e] ta) (hs : starEach [e] X.env = [(false, eval e X.env)] := by rfl) :
    PI X (.Tuple elts kk tpos) (.Call (.Name "enumerate" p) [e] [] pos) (iEnumA X.K ta) := by
  constructor
  intro pins s σ H R I h
  refine PyProof.Rows.Call_ (ld_blt I hg hm PyProof.Rows.boot_enumerate (PyProof.Rows.callWith_type1 (thn (ha.run pos pins s σ H _ I h) fun us s1 q0 => ?_) hs rfl))
  obtain ⟨vs, H1, I1, r1, q1⟩ := q0
  have fpo : ∀ b ∈ [s1.heap.objs.size + 1, s1.heap.objs.size], FpOk X pins H1 b := fun b hb => by
    have hle : s1.heap.objs.size ≤ b := by
      rcases List.mem_cons.mp hb with z | z
      · rw [z]; exact Nat.le_add_right _ _
      · rw [List.mem_singleton.mp z]; exact Nat.le_refl _
    exact I1.fpOk hle (I1.hok.fresh hle)
  rcases q1 with ⟨a, xs, rfl, hq, q⟩ | ⟨a, xs, rfl, hq, q⟩ | ⟨y, rfl, q⟩
  · obtain ⟨u, rfl, ru⟩ := vals1 r1
    cases ru
    obtain ⟨its, rv, pl, hz⟩ := I1.list hq
    refine call_enumerate_list pl.isList fun h' he hit hsz hk => wpAny_pyIter_enum he ?_
    exact ⟨_, _, _, _, H1, rfl, I1.kept (t' := s1.toks) hk, turn_enum a (s1.heap.objs.size + 1) s1.heap.objs.size, ⟨⟨.none, he⟩, hit, Nat.succ_ne_self _⟩, fpo, q⟩
  · obtain ⟨u, rfl, ru⟩ := vals1 r1
    cases ru
    obtain ⟨its, rv, pl, hz⟩ := I1.tuple hq
    refine call_enumT (show s1.heap.IsTuple a its.toArray from pl) fun h' he hit hk => wpAny_pyIter_enum he ?_
    exact ⟨_, _, _, _, H1, rfl, I1.kept (t' := s1.toks) hk, turn_enumT a (s1.heap.objs.size + 1) s1.heap.objs.size xs, ⟨⟨.none, he⟩, hit, Nat.succ_ne_self _, Nat.zero_le _⟩, fpo, q⟩
  · obtain ⟨u, rfl, ru⟩ := vals1 r1
    obtain ⟨t, rfl⟩ := ru
    refine call_enumerate_str fun h' he hit hsz hk => wpAny_pyIter_enum he ?_
    exact ⟨_, _, _, _, H1, rfl, I1.kept (t' := s1.toks) hk, turn_enumS (s1.heap.objs.size + 1) s1.heap.objs.size y t, ⟨⟨.none, he⟩, hit, Nat.succ_ne_self _, Nat.zero_le _⟩, fpo, q⟩
noncomputable def enumI (f : ME) : MI := fun env st => (f env st).bind fun p => (seqOf p.1).map fun ds => (enumD ds, p.2)
theorem ii_enum {te : TE} {f : ME} (h : Im K te f) : ImI K (iEnumA K (tCons te tNil)) (enumI f) := fun dk H0 F0 F σ H env st ds st' g e R q => by
  obtain ⟨⟨d, s1⟩, h1, e⟩ := bnd e
  obtain ⟨es, h2, e⟩ := mpd e
  cases e
  refine h dk H0 F0 F σ H env st d s1 g h1 _ fun v F1 H1 x1 g1 r1 => ?_
  replace h2 : seqOf d = some es := h2
  cases d with
  | lst xs =>
    cases h2
    cases r1 with
    | lst a1 a2 => exact .inl ⟨_, _, rfl, SqL.of (g1.wd.sub.lst a1), q _ F1 H1 x1 g1 (stdy_enumL a1 a2)⟩
  | tup xs =>
    cases h2
    cases r1 with
    | tup a1 a2 => exact .inr (.inl ⟨_, _, rfl, g1.wd.sub.sqT a1, q _ F1 H1 x1 g1 (stdy_enumE (fun H2 le => le.sqT a1) a2)⟩)
  | str x =>
    cases h2
    cases r1
    exact .inr (.inr ⟨_, rfl, q _ F1 H1 x1 g1 (stdy_enumE (fun _ _ => trivial) (Rps.ofStrs _))⟩)
  | _ => cases h2
end
end MD
set_option Elab.async false
set_option linter.all false
set_option maxRecDepth 100000
set_option maxHeartbeats 2000000
namespace MD
open PySem PySem.Spec PyProof.Rows L2
variable {ww : WW}
/-- a def keeps its promise wherever no repr is running -/
structure FnG (P : Program) (w : World) (K : Fg) (mg : Str → Option Value) (base : Heap) (k : Nat) (f : Addr) (fd : FuncData) (ps : List Str) (sp : Sp) : Prop where
  len : ∀ vs H Q E, sp vs H Q E → vs.length = ps.length
  run : ∀ (A : Around) (outer : List Env) (s : Shared) (H : Hp) (args : Args) (us : List Value) (vs : List V) (Q : VK) (E : XK), Room k A → A.guards = some [] → Env0 P w K mg base A outer s H → BindsTo s fd args (ps.zip us) → Vals vs us →
    sp vs H Q E → codeAny (model P w) A (.call (.ref f) args) (CR CX0 outer P w H s Q E) s
section
variable {X : Cx} {k : Nat} {f : Addr} {fd : FuncData} {ps : List Str} {sp : Sp} {x : Str} {p pos : Pos} {e : Expr} {es : List Expr} {t : TA}
theorem runG {pins : List (Addr × Obj)} {σ : L2.St} {H : Hp} {s : Shared} {Q : VK} {us : List Value} {vs : List V} (F : FnG X.prog X.w X.K X.mg X.base k f fd ps sp) (hr : Room k X.A) (gd : X.A.guards = some []) (hb : Binds X.K fd ps [])
    (I : L2.Inv X pins σ H s) (r : Vals vs us) (h : sp vs H Q E0) : wpAny (model X.prog X.w) X.A (call (.ref f) us) (EP X pins σ Q) X.xe s := by
  have hl : us.length = ps.length := r.length.symm.trans (F.len _ _ _ _ h)
  have bb := hb s us I.kIn (by rw [List.append_nil]; exact hl)
  rw [List.append_nil] at bb
  refine wpAny_call (codeAny_mono (F.run X.A X.stack s H ⟨us, []⟩ us vs Q E0 hr gd I.env0 bb r h) fun rr s' hq => ?_)
  cases rr with
  | error er => exact False.elim hq
  | ok fl =>
    cases fl with
    | ret u => exact I.after hq
    | next => exact False.elim hq
    | brk => exact False.elim hq
    | cont => exact False.elim hq
theorem pe_callG (F : FnG X.prog X.w X.K X.mg X.base k f fd ps sp) (hr : Room k X.A) (gd : X.A.guards = some []) (hg : Gl X x) (hm : X.mg x = some (.ref f)) (hk : PySem.W.keepIn X.K (.ref f) = true) (hb : Binds X.K fd ps [])
    (ha : PA X (e :: es) t) (hdb : (x == ("__debug__" : Str)) = false := by decide) (he : starEach (e :: es) X.env = (false, eval e X.env) :: starEach es X.env := by rfl) (hpl : (backTo pos (starEach es X.env)).any (·.1) = false := by rfl) :
    PE X (.Call (.Name x p) (e :: es) [] pos) (tCall sp [] E0 t) := by
  constructor
  intro pins s σ H Q I h
  refine wpAny_Call_Name_kw (ld_glob I hg hm ?_ hdb)
  refine PySem.W.callWith_K (h₀ := X.base) I.ok.mod.kin hk (thn (ha.run pos pins s σ H _ I h) fun us s1 q0 => ?_) he hpl
  obtain ⟨vs, H1, I1, r, q⟩ := q0
  rw [List.append_nil] at q
  exact ⟨I1.kIn, runG F hr gd hb I1 r q⟩
end
theorem guards_deeper {A : Around} (env : Env) (h : A.guards = some []) : (A.deeper env).guards = some [] := by
  first | exact h | (simp [Around.deeper, h])
/-- a def of the text by its body -/
theorem fnG_of {P : Program} {w : World} {K : Fg} {mg : Str → Option Value} {base : Heap} {x qual : Str} {st : Stmt} {f : Addr} {fd : FuncData} {N ps : List Str} {k : Nat} {sp : Sp} (Fn : Fun K x qual st f fd) (S : FnScope N ps (defScope st))
    (len : ∀ vs H Q E, sp vs H Q E → vs.length = ps.length)
    (hbody : ∀ (cdv : Value) (A : Around) (outer : List Env) (s : Shared) (H : Hp) (vs : List V) (Q : VK) (E : XK), Room k (A.deeper (envOfC qual (defScope st) s.heap.objs.size f cdv)) → (A.deeper (envOfC qual (defScope st) s.heap.objs.size f cdv)).guards = some [] → sp vs H Q E →
      ∃ t, PSs (cxOf CX0 P w K mg base N qual (defScope st) f cdv A outer s H E).nox (defBody st) t ∧ t { nx := fun _ H' => Q .non H', rt := Q } (L2.start N vs) H) : FnG P w K mg base (k + 1) f fd ps sp := by
  refine ⟨len, fun A outer s H args us vs Q E hr gd e0 hb r hsp => ?_⟩
  -- the promise, asked only where no repr is running
  let sp' : Sp := fun vs' H' Q' E' => sp vs' H' Q' E'
  obtain ⟨oc, od, kV, doc, pm, an, cdv, ct, osl, rfl, lk, hcd⟩ := Fn.ex
  have hl := len _ _ _ _ hsp
  have KX : K.In s.heap := e0.mod.kin.keeps fun b o e => (e0.bs b o e).1
  have lim : s.heap.NoLimit := e0.mod.nolimit.keeps fun b o e => (e0.bs b o e).1
  have hkind : ∀ y ∈ ps.zip us, (defScope st).names.lookup y.1 = some .local ∨ ((defScope st).names.lookup y.1 = some .cell ∧ ((cellsFrom (s.heap.objs.size + 1) (defScope st).names []).lookup y.1).isSome = true) := by
    rintro ⟨n, v⟩ hy
    rcases S.par n (List.of_mem_zip hy).1 with q | q
    · exact .inl q
    · exact .inr ⟨q, PySem.W.cellsFrom_some _ _ _ (.inl q)⟩
  refine codeAny_call_function hr.depth (KX _ _ lk) rfl S.co S.gen rfl (PySem.W.codeRec_of KX hcd) (hb _ _ _ _ ?_)
  refine wpAny_newFunctionEnv_cells S.kind hkind fun env he s1 y => ?_
  subst he
  refine ⟨lim.keeps y.toInCall.keep, codeAny_func ?_⟩
  obtain ⟨t, ht, hq⟩ := hbody cdv A outer s H vs Q E (hr.deeper _) (guards_deeper _ gd) hsp
  have I := inv_start (CX := CX0) (E := E) (qual := qual) (f := f) (cd := cdv) S hr.hd e0 hl r y
  refine wpAny_mono ((ht.nox).run [] s1 (L2.start N vs) H _ I hq) (fun fl s' hs => ?_) fun er s' hs => hs
  cases fl with
  | ret u =>
    obtain ⟨v, σ', H', J, rv, q⟩ := hs
    exact ⟨v, H', J.os, J.bare, J.base, J.hok, rv, q⟩
  | next =>
    obtain ⟨σ', H', J, q⟩ := hs
    exact ⟨V.non, H', J.os, J.bare, J.base, J.hok, rfl, q⟩
  | brk =>
    obtain ⟨_, _, _, q⟩ := hs
    exact False.elim q
  | cont =>
    obtain ⟨_, _, _, q⟩ := hs
    exact False.elim q
noncomputable abbrev MF := List D → S → Option (D × S)
/-- called with these data it gives what the mirror gives; n parameters -/
noncomputable def spD [WW] (K : Fg) (n : Nat) (m : MF) : Sp := fun vs H Q _ => vs.length = n ∧ ∃ (dk : Dk) (F : Fz) (ds : List D) (st : S) (d : D) (st' : S), Wd K dk F H st ∧ Rps K dk F vs ds ∧ m ds st = some (d, st') ∧
  ∀ v F' H', Ext dk F H F' H' → Wd K dk F' H' st' → Rp K dk F' v d → Q v H'
noncomputable def callM (m : MF) (a : MA) : ME := fun env st => (a env st).bind fun p => m p.1 p.2
section
variable {K : Fg}
theorem im_call {n : Nat} {m : MF} {ta : TA} {a : MA} {E : XK} (ha : ImA K ta a) (hn : ∀ env st p, a env st = some p → p.1.length = n) : Im K (tCall (spD K n m) [] E ta) (callM m a) := fun dk H0 F0 F σ H env st d st' g e Q q => by
  obtain ⟨⟨ds, s1⟩, h1, e⟩ := bnd e
  refine ha dk H0 F0 F σ H env st ds s1 g h1 _ fun vs F1 H1 x1 g1 r1 => ?_
  rw [List.append_nil]
  exact ⟨r1.length.trans (hn _ _ _ h1), dk, F1, ds, s1, d, st', g1.wd, r1, e, fun v F' H' x w r => q v F' H' (x1.trans x) (g1.step x w) r⟩
theorem an_nil : ∀ env st p, aNil env st = some p → p.1.length = 0 := fun env st p h => by cases h; rfl
theorem an_cons {f : ME} {r : MA} {n : Nat} (h : ∀ env st p, r env st = some p → p.1.length = n) : ∀ env st p, aCons f r env st = some p → p.1.length = n + 1 := fun env st p e => by
  obtain ⟨x, h1, e⟩ := bnd e
  obtain ⟨y, h2, e⟩ := mpd e
  cases e
  simp [h _ _ _ h2]
/-- a def's mirror, by its body's -/
noncomputable def runM (N : Nat) (b : MS) : MF := fun ds st => (b (ds.map Sl.val ++ List.replicate (N - ds.length) Sl.un) st).bind fun p => match p.1 with
  | .rt d => some (d, p.2)
  | .nx _ => some (.non, p.2)
  | _ => none
theorem Rps.slots {dk : Dk} {F : Fz} : ∀ {vs : List V} {ds : List D} {i : Nat} {s : Sl}, Rps K dk F vs ds → (ds.map Sl.val)[i]? = some s → ∃ v d, vs[i]? = some v ∧ s = .val d ∧ Rp K dk F v d := fun {vs ds i s} r e => by
  rw [List.getElem?_map] at e
  obtain ⟨d, h1, h2⟩ := mpd e
  obtain ⟨v, h3, h4⟩ := r.get h1
  exact ⟨v, d, h3, h2.symm, h4⟩
theorem good_start {dk : Dk} {F : Fz} {H : Hp} {N : List Str} {vs : List V} {ds : List D} {st : S} (w : Wd K dk F H st) (r : Rps K dk F vs ds) (hl : vs.length ≤ N.length) : Good K dk H F F (L2.start N vs) H (ds.map Sl.val ++ List.replicate (N.length - ds.length) Sl.un) st := by
  have hlen := r.length
  refine ⟨w, Ext.refl F H, ?_, fun i s e => ?_, fun i j es fs p hne e1 e2 e3 => ?_⟩
  · unfold L2.start
    simp
    omega
  · by_cases hi : i < ds.length
    · rw [List.getElem?_append_left (by simpa using hi)] at e
      obtain ⟨v, d, h1, rfl, h2⟩ := r.slots e
      refine ⟨v, ?_, h2⟩
      unfold L2.start
      rw [List.getElem?_append_left (by rw [List.length_map, hlen]; exact hi), List.getElem?_map, h1]
      rfl
    · rw [List.getElem?_append_right (by simpa using hi), List.getElem?_replicate] at e
      split at e
      · cases e; trivial
      · cases e
  · exfalso
    by_cases hi : i < ds.length
    · rw [List.getElem?_append_left (by simpa using hi)] at e1
      obtain ⟨v, d, _, h, _⟩ := r.slots e1
      cases h
    · rw [List.getElem?_append_right (by simpa using hi), List.getElem?_replicate] at e1
      split at e1 <;> cases e1
/-- THE RULE: a def by its body's term t and the mirror b of t -/
theorem fnD {P : Program} {w : World} {mg : Str → Option Value} {base : Heap} {x qual : Str} {st : Stmt} {f : Addr} {fd : FuncData} {N ps : List Str} {k : Nat} {b : MS} (Fn : Fun K x qual st f fd) (S : FnScope N ps (defScope st)) (hN : ps.length ≤ N.length)
    (hbody : ∀ (cdv : Value) (A : Around) (outer : List Env) (s : Shared) (H : Hp) (E : XK), Room k (A.deeper (envOfC qual (defScope st) s.heap.objs.size f cdv)) → (A.deeper (envOfC qual (defScope st) s.heap.objs.size f cdv)).guards = some [] →
      ∃ t, PSs (cxOf CX0 P w K mg base N qual (defScope st) f cdv A outer s H E).nox (defBody st) t ∧ ImS K t b) : FnG P w K mg base (k + 1) f fd ps (spD K ps.length (runM N.length b)) := by
  refine fnG_of Fn S (fun vs H Q E h => h.1) fun cdv A outer s H vs Q E hr gd h => ?_
  obtain ⟨hlv, dk, F, ds, s0, d, s1, wd, r, e, q⟩ := h
  obtain ⟨t, h1, h2⟩ := hbody cdv A outer s H E hr gd
  refine ⟨t, h1, ?_⟩
  obtain ⟨⟨fl, s2⟩, e1, e⟩ := bnd e
  refine h2 dk H F F (L2.start N vs) H _ s0 fl s2 (good_start wd r (by rw [hlv]; exact hN)) e1 _ ?_
  cases fl with
  | rt d' => cases e; exact fun v F' H' x w r => q v F' H' x w r
  | nx en => cases e; exact fun F' σ' H' le g => q .non F' H' g.ext g.wd .non
  | bk en => cases e
  | ct en => cases e
end
end MD
set_option Elab.async false
set_option linter.all false
set_option maxRecDepth 100000
set_option maxHeartbeats 2000000
namespace MD
open PySem PySem.Spec PyProof.Rows L2
variable {ww : WW}
structure DC where
  m1 : Int
  c1 : Int
  c2 : Int
  m2 : Int
noncomputable def atOf (st : S) : Nat := ((st.n + 1) % (st.cells.length : Int)).toNat
noncomputable def cellOf (st : S) : Int := if st.cells = [] then 0 else st.cells.getD (atOf st) 0
noncomputable def drawV (c : DC) (many : Int) (st : S) : Int :=
  if cellOf st ≥ 10 ^ 18 then cellOf st % many else ((cellOf st % c.m1 + c.c1 * (st.n + 1) + c.c2) ^ 5 % c.m2) % many
noncomputable def drawT (many : Int) (st : S) : S :=
  if cellOf st ≥ 10 ^ 18 then ⟨st.cells.set (atOf st) (cellOf st / many), st.n + 1, st.ob⟩ else ⟨st.cells, st.n + 1, st.ob⟩
noncomputable def nMax : Int := 1000000000000
noncomputable def drawM (c : DC) : MF
  | [.deck, .int many], st => if 0 < many ∧ many < 1073741824 ∧ 0 ≤ st.n ∧ st.n < nMax then some (.int (drawV c many st), drawT many st) else none
  | _, _ => none
noncomputable def DC.ok (c : DC) : Prop := 0 < c.m1 ∧ c.m1 < 2 ^ 32 ∧ 0 < c.m2 ∧ c.m2 < 2 ^ 32 ∧ 0 ≤ c.c1 ∧ c.c1 < 2 ^ 16 ∧ 0 ≤ c.c2 ∧ c.c2 < 2 ^ 16
section
variable {K : Fg}
noncomputable def rInt1 : List V → Hp → VK → Prop := fun xs H Q => (∃ i, xs = [.int i] ∧ Q (.int i) H) ∨ ∃ k, xs = [.bl k] ∧ Q (.int (if k then 1 else 0)) H
noncomputable def rLen1 (K : Fg) : List V → Hp → VK → Prop := fun xs H Q => ∃ x n, xs = [x] ∧ LenV K x H n ∧ Q (.int n) H
noncomputable abbrev tInt (t : TE) : TE := tCB rInt1 (tCons t tNil)
noncomputable abbrev tLen (K : Fg) (t : TE) : TE := tCB (rLen1 K) (tCons t tNil)
noncomputable abbrev tIx (K : Fg) (a b : TE) : TE := tOp (rIx K) a b
noncomputable abbrev tI (i : Int) : TE := tC (.int i)
noncomputable abbrev tDk1 (K : Fg) : TE := tIx K (tVar 0) (tI 1)
noncomputable abbrev tDk0 (K : Fg) : TE := tIx K (tVar 0) (tI 0)
noncomputable def tDraw1 (K : Fg) : TS := tAsg (tOp (rI0 fun i j => .int (i + j)) (tDk1 K) (tI 1)) (gSub (tVar 0) (tI 1) rSetL)
noncomputable def tDraw2 (K : Fg) : TS := tAsg (tTup (tCons (tI 0) (tCons (tUn (rU fun i => .int (-i)) (tI 1)) tNil))) (gTup K 2 (gCons (gName 2) (gCons (gName 3) gNil)))
noncomputable def tDraw3 (K : Fg) : TS := tIfS (tTest (tOp (rI0 fun i j => .bl (decide (j < i))) (tLen K (tDk0 K)) (tI 0)))
  (tSeq (tAsg (tOp (rI (fun _ j => 0 < j) fun i j => .int (i % j)) (tInt (tDk1 K)) (tLen K (tDk0 K))) (gName 3)) (tAsg (tIx K (tDk0 K) (tVar 3)) (gName 2))) tNext
noncomputable def tDraw4 (K : Fg) : TS := tIfS (tTest (tOp (rI0 fun i j => .bl (decide (j ≤ i))) (tVar 2) (tOp (rI CPow fun i j => .int (i ^ j.toNat)) (tI 10) (tI 18))))
  (tSeq (tAsg (tOp (rI CDiv fun i j => .int (i / j)) (tInt (tVar 2)) (tVar 1)) (gSub (tDk0 K) (tVar 3) rSetL)) (tRet (tOp (rI (fun _ j => 0 < j) fun i j => .int (i % j)) (tInt (tVar 2)) (tVar 1)))) tNext
noncomputable def tDraw5 (K : Fg) (c : DC) : TS := tAsg (tOp (rI0 fun i j => .int (i + j)) (tOp (rI0 fun i j => .int (i + j)) (tOp (rI (fun _ j => 0 < j) fun i j => .int (i % j)) (tInt (tVar 2)) (tI c.m1))
  (tOp (rI CMul fun i j => .int (i * j)) (tI c.c1) (tDk1 K))) (tI c.c2)) (gName 4)
noncomputable def tDraw6 (K : Fg) (c : DC) : TS := tRet (tOp (rI (fun _ j => 0 < j) fun i j => .int (i % j)) (tInt (tOp (rI (fun _ j => 0 < j) fun i j => .int (i % j)) (tInt (tOp (rI CPow fun i j => .int (i ^ j.toNat)) (tVar 4) (tI 5))) (tI c.m2))) (tVar 1))
noncomputable def tDraw (K : Fg) (c : DC) : TS := tSeq (tDraw1 K) (tSeq (tDraw2 K) (tSeq (tDraw3 K) (tSeq (tDraw4 K) (tSeq (tDraw5 K c) (tDraw6 K c)))))
theorem at0 {α : Type} {x y : α} : L2.atI [x, y] 0 = some x := rfl
theorem at1 {α : Type} {x y : α} : L2.atI [x, y] 1 = some y := rfl
/-- deck[1], deck[0] -/
theorem rd1 {H : Hp} {a c : Addr} {n : Int} {σ : L2.St} {Q : VK} (hs : σ[0]? = some (some (.ref a))) (h : H a = some (.lst [.ref c, .int n])) (q : Q (.int n) H) : tDk1 K σ H Q :=
  ⟨_, hs, .inl ⟨a, _, 1, _, rfl, rfl, SqL.of h, at1, q⟩⟩
theorem rd0 {H : Hp} {a c : Addr} {n : Int} {σ : L2.St} {Q : VK} (hs : σ[0]? = some (some (.ref a))) (h : H a = some (.lst [.ref c, .int n])) (q : Q (.ref c) H) : tDk0 K σ H Q :=
  ⟨_, hs, .inl ⟨a, _, 0, _, rfl, rfl, SqL.of h, at0, q⟩⟩
theorem draw_ok {dk : Dk} {F : Fz} {H : Hp} {st : S} {c : DC} {many : Int} (hc : c.ok) (w : Wd K dk F H st) (h1 : 0 < many) (h2 : many < 1073741824) (h3 : 0 ≤ st.n) (h4 : st.n < nMax) {E : Ends}
    (q : ∀ F' H', Ext dk F H F' H' → Wd K dk F' H' (drawT many st) → E.rt (.int (drawV c many st)) H') : tDraw K c E [some (.ref dk.1), some (.int many), none, none, none] H := by
  obtain ⟨k1, k2, k3, k4, k5, k6, k7, k8⟩ := hc
  -- deck[1] = deck[1] + 1
  refine rd1 rfl w.d1 ⟨st.n, 1, rfl, rfl, _, rfl, dk.1, _, 1, 1, rfl, rfl, w.d1, rfl, ?_⟩
  have hH1 : upd H dk.1 (.lst ([V.ref dk.2, V.int st.n].set 1 (V.int (st.n + 1)))) = upd H dk.1 (.lst [.ref dk.2, .int (st.n + 1)]) := rfl
  rw [hH1]
  have a1 : ∀ (H' : Hp), H' = upd H dk.1 (.lst [.ref dk.2, .int (st.n + 1)]) → H' dk.1 = some (.lst [.ref dk.2, .int (st.n + 1)]) ∧ H' dk.2 = some (.lst (st.cells.map V.int)) := by
    rintro H' rfl
    exact ⟨upd_same, by rw [upd_ne w.ne.symm]; exact w.d2⟩
  generalize hHH : upd H dk.1 (.lst [.ref dk.2, .int (st.n + 1)]) = H1
  obtain ⟨b1, b2⟩ := a1 H1 hHH.symm
  -- cell, at = 0, -1
  refine ⟨1, rfl, by show 2 ≤ sizeLine; decide, fun p hp => ⟨p, _, rfl, SqT.of upd_same, rfl, _, _, rfl, _, _, rfl, rfl, ?_⟩⟩
  have p1 : p ≠ dk.1 := (ne_of_none b1 hp).symm
  have p2 : p ≠ dk.2 := (ne_of_none b2 hp).symm
  generalize hHp : upd H1 p (.tup [.int 0, .int (-1)]) = H2
  have c1 : H2 dk.1 = some (.lst [.ref dk.2, .int (st.n + 1)]) := by rw [← hHp, upd_ne p1.symm]; exact b1
  have c2 : H2 dk.2 = some (.lst (st.cells.map V.int)) := by rw [← hHp, upd_ne p2.symm]; exact b2
  have hp0 : H p = none := by
    rw [← hHH, upd_ne p1] at hp; exact hp
  have keep : ∀ a o, H a = some o → a ≠ dk.1 → a ≠ dk.2 → H2 a = some o := fun a o e n1 n2 => by
    rw [← hHp, upd_ne (ne_of_none e hp0), ← hHH, upd_ne n1]; exact e
  have keepF : Sb F H2 := fun a o e => by
    have m1 : a ≠ dk.1 := fun z => by rw [z, w.f1.1] at e; cases e
    have m2 : a ≠ dk.2 := fun z => by rw [z, w.f2.1] at e; cases e
    rcases w.sub a o e with q | ⟨od, kvs, q1, q2⟩
    · exact .inl (keep a o q m1 m2)
    · exact .inr ⟨od, kvs, q1, keep a _ q2 m1 m2⟩
  have keepO : ∀ (H3 : Hp), (∀ a o, H2 a = some o → a ≠ dk.2 → H3 a = some o) → ∀ (n : Nat) (a : Addr) (o : Ob), F.mu[n]? = some a → st.ob[n]? = some o → F a = none ∧ ObAt K dk F H3 a o := fun H3 hk n a o e1 e2 => by
    obtain ⟨q1, q2⟩ := w.ob n a o e1 e2
    have m1 : a ≠ dk.1 := fun z => w.f1.2 (z ▸ List.mem_of_getElem? e1)
    have m2 : a ≠ dk.2 := fun z => w.f2.2 (z ▸ List.mem_of_getElem? e1)
    exact ⟨q1, q2.keep (fun o e => hk a o (keep a o e m1 m2) m2) (Le.refl F)⟩
  have keepK : ∀ a o, H2 a = some o → Fro o → H a = some o := fun a o e f => by
    rw [← hHp, ← hHH] at e
    exact updK (by rintro ⟨_, _, z⟩; cases z) a o (updK (by rintro ⟨_, _, z⟩; cases z) a o e f) f
  have keepM : ∀ a, H a ≠ none → H2 a ≠ none := fun a e z => by
    by_cases n1 : a = dk.1
    · rw [n1, c1] at z; cases z
    · by_cases n2 : a = dk.2
      · rw [n2, c2] at z; cases z
      · cases q : H a with
        | none => exact e q
        | some o => rw [keep a o q n1 n2] at z; cases z
  have ext2 : Ext dk F H F H2 := ⟨fun a o e n1 n2 _ => keep a o e n1 n2, Le.refl F, fun _ h _ => h, keepM, fun _ h => .inl h, keepK⟩
  have wd2 : Wd K dk F H2 ⟨st.cells, st.n + 1, st.ob⟩ := ⟨keepF, c1, c2, w.f1, w.f2, w.ne, w.ml, w.nd, keepO H2 fun _ _ e _ => e⟩
  -- the cell
  have mid : ∀ (E' : Ends), (∀ v3, (st.cells ≠ [] → v3 = ((atOf st : Nat) : Int) ∧ atOf st < st.cells.length) → E'.nx [some (.ref dk.1), some (.int many), some (.int (cellOf st)), some (.int v3), none] H2) →
      tDraw3 K E' [some (.ref dk.1), some (.int many), some (.int 0), some (.int (-1)), none] H2 := by
    intro E' hE
    refine rd0 rfl c1 ⟨_, _, rfl, .inl ⟨_, SqL.of c2, rfl⟩, _, 0, rfl, rfl, _, rfl, ?_⟩
    by_cases hl : st.cells = []
    · dsimp only
      rw [if_neg (by simp [hl])]
      have e0 : cellOf st = 0 := by unfold cellOf; rw [if_pos hl]
      have := hE (-1) fun z => absurd hl z
      rw [e0] at this
      exact this
    · have hlen : 0 < st.cells.length := List.length_pos_iff.mpr hl
      dsimp only
      rw [if_pos (by simp; exact hlen)]
      refine rd1 rfl c1 (.inl ⟨_, rfl, rd0 rfl c1 ⟨_, _, rfl, .inl ⟨_, SqL.of c2, rfl⟩, _, _, rfl, rfl, by simp; exact hlen, ?_⟩⟩)
      have hm0 : 0 ≤ (st.n + 1) % (st.cells.length : Int) := Int.emod_nonneg _ (by omega)
      have hm1 : (st.n + 1) % (st.cells.length : Int) < st.cells.length := Int.emod_lt_of_pos _ (by omega)
      have hat : ((atOf st : Nat) : Int) = (st.n + 1) % (st.cells.length : Int) := by unfold atOf; omega
      have hal : atOf st < st.cells.length := by omega
      show tAsg (tIx K (tDk0 K) (tVar 3)) (gName 2) E' [some (.ref dk.1), some (.int many), some (.int 0), some (.int ((st.n + 1) % ((st.cells.map V.int).length : Int))), none] H2
      rw [List.length_map, ← hat]
      have hg : L2.atI (st.cells.map V.int) ((atOf st : Nat) : Int) = some (.int (st.cells.getD (atOf st) 0)) := by
        refine atI_nat ?_
        rw [List.getElem?_map, List.getElem?_eq_getElem hal, List.getD_eq_getElem?_getD, List.getElem?_eq_getElem hal]
        rfl
      refine rd0 rfl c1 ⟨_, rfl, .inl ⟨_, _, _, _, rfl, rfl, SqL.of c2, hg, ?_⟩⟩
      have e0 : cellOf st = st.cells.getD (atOf st) 0 := by unfold cellOf; rw [if_neg hl]
      have := hE ((atOf st : Nat) : Int) fun _ => ⟨rfl, hal⟩
      rw [e0] at this
      exact this
  refine mid _ fun v3 hv3 => ?_
  -- a great cell
  refine ⟨_, rfl, 10, 18, rfl, rfl, ⟨by decide, by decide, by decide⟩, _, _, rfl, rfl, _, rfl, ?_⟩
  by_cases hbig : cellOf st ≥ 10 ^ 18
  · have hne : st.cells ≠ [] := fun z => by
      have e0 : cellOf st = 0 := by unfold cellOf; rw [if_pos z]
      rw [e0] at hbig
      revert hbig; decide
    obtain ⟨e3, hal⟩ := hv3 hne
    dsimp only
    rw [if_pos (by simpa using hbig)]
    refine ⟨_, rfl, .inl ⟨_, rfl, _, rfl, _, _, rfl, rfl, ⟨h1, h2⟩, ?_⟩⟩
    refine rd0 rfl c1 ⟨_, rfl, dk.2, _, v3, atOf st, rfl, rfl, c2, ?_, ?_⟩
    · rw [e3]
      unfold ixN
      rw [if_pos (by omega), if_pos (by rw [List.length_map]; omega)]
      simp
    · refine ⟨_, rfl, .inl ⟨_, rfl, _, rfl, _, _, rfl, rfl, h1, ?_⟩⟩
      have ev : drawV c many st = cellOf st % many := by unfold drawV; rw [if_pos hbig]
      have et : drawT many st = ⟨st.cells.set (atOf st) (cellOf st / many), st.n + 1, st.ob⟩ := by unfold drawT; rw [if_pos hbig]
      have es : (st.cells.map V.int).set (atOf st) (.int (cellOf st / many)) = (st.cells.set (atOf st) (cellOf st / many)).map V.int := by rw [List.map_set]
      rw [es]
      have fin := q F (upd H2 dk.2 (.lst ((st.cells.set (atOf st) (cellOf st / many)).map V.int))) ⟨fun a o e n1 n2 _ => by rw [upd_ne n2]; exact keep a o e n1 n2, Le.refl F, fun _ h _ => h, fun a e z => by
        by_cases n2 : a = dk.2
        · rw [n2, upd_same] at z; cases z
        · rw [upd_ne n2] at z; exact keepM a e z, fun _ h => .inl h, fun a o e f => keepK a o (updK (by rintro ⟨_, _, z⟩; cases z) a o e f) f⟩ (by
          rw [et]
          exact ⟨fun a o e => by rw [upd_ne (fun z => by rw [z, w.f2.1] at e; cases e)]; exact keepF a o e, by rw [upd_ne w.ne]; exact c1, upd_same, w.f1, w.f2, w.ne, w.ml, w.nd, keepO _ fun a o e m => by rw [upd_ne m]; exact e⟩)
      rw [ev] at fin
      exact fin
  · dsimp only
    rw [if_neg (by simpa using hbig)]
    have hmix : 0 ≤ cellOf st % c.m1 ∧ cellOf st % c.m1 < c.m1 := ⟨Int.emod_nonneg _ (by omega), Int.emod_lt_of_pos _ k1⟩
    refine ⟨_, rfl, .inl ⟨_, rfl, _, _, rfl, rfl, k1, ?_⟩⟩
    refine rd1 rfl c1 ⟨_, _, rfl, rfl, .inl ⟨by omega, by omega⟩, _, _, rfl, rfl, _, _, rfl, rfl, ?_⟩
    have hb : c.c1 * (st.n + 1) ≤ 65536 * 1000000000001 := by
      unfold nMax at h4
      have x1 : c.c1 * (st.n + 1) ≤ 65536 * (st.n + 1) := Int.mul_le_mul_of_nonneg_right (by omega) (by omega)
      omega
    have hb0 : 0 ≤ c.c1 * (st.n + 1) := Int.mul_nonneg k5 (by omega)
    refine ⟨_, rfl, _, _, rfl, rfl, ⟨by decide, by decide, ?_⟩, .inl ⟨_, rfl, _, _, rfl, rfl, k3, .inl ⟨_, rfl, _, rfl, _, _, rfl, rfl, h1, ?_⟩⟩⟩
    · omega
    · have ev : drawV c many st = ((cellOf st % c.m1 + c.c1 * (st.n + 1) + c.c2) ^ 5 % c.m2) % many := by unfold drawV; rw [if_neg hbig]
      have et : drawT many st = ⟨st.cells, st.n + 1, st.ob⟩ := by unfold drawT; rw [if_neg hbig]
      have fin := q F H2 ext2 (by rw [et]; exact wd2)
      rw [ev] at fin
      exact fin
end
end MD
set_option Elab.async false
set_option linter.all false
set_option maxRecDepth 100000
set_option maxHeartbeats 2000000
namespace MD
open PySem PySem.Spec PyProof.Rows L2
variable {ww : WW}
section
variable {K : Fg} {P : Program} {w : World} {mg : Str → Option Value} {base : Heap}
theorem fn_draw {x qual : Str} {st : Stmt} {f : Addr} {fd : FuncData} {N ps : List Str} {k : Nat} {c : DC} (hc : c.ok) (Fn : Fun K x qual st f fd) (S : FnScope N ps (defScope st)) (hN : N.length = 5) (hp : ps.length = 2)
    (hbody : ∀ (cdv : Value) (A : Around) (outer : List Env) (s : Shared) (H : Hp) (E : XK), PSs (cxOf CX0 P w K mg base N qual (defScope st) f cdv A outer s H E).nox (defBody st) (tDraw K c)) : FnG P w K mg base (k + 1) f fd ps (spD K 2 (drawM c)) := by
  refine fnG_of Fn S (fun vs H Q E h => by rw [hp]; exact h.1) fun cdv A outer s H vs Q E hr gd h => ⟨_, hbody cdv A outer s H E, ?_⟩
  obtain ⟨hlv, dk, F, ds, s0, d, s1, wd, r, e, q⟩ := h
  unfold drawM at e
  split at e
  · split at e
    · rename_i hcnd
      cases e
      cases r with
      | cons a b => cases b with
        | cons b c' =>
          cases c'
          cases a
          cases b
          have es : ∀ i : Int, L2.start N [V.ref dk.1, V.int i] = [some (.ref dk.1), some (.int i), none, none, none] := fun i => by
            unfold L2.start
            rw [hN]
            rfl
          rw [es _]
          exact draw_ok hc wd hcnd.1 hcnd.2.1 hcnd.2.2.1 hcnd.2.2.2 fun F' H' x w => q _ F' H' x w (.int _)
    · cases e
  · cases e
noncomputable def absI (i : Int) : Int := if i < 0 then -i else i
noncomputable def spDeck [WW] (K : Fg) : Sp := fun vs H Q _ => ∃ (a : Addr) (ns : List Int), vs = [.ref a] ∧ SqL K H a (ns.map V.int) ∧ ns.length ≤ 63 ∧
  ∀ (dk : Dk) (H' : Hp), Lh H H' → Wd K dk ⟨fun _ => none, []⟩ H' ⟨ns.map absI, 0, []⟩ → Q (.ref dk.1) H'
noncomputable def rAbs1 : List V → Hp → VK → Prop := fun xs H Q => ∃ i, xs = [.int i] ∧ Q (.int (if i < 0 then -i else i)) H
noncomputable def tDeck (K : Fg) : TS := tRet (tLst (tCons (tLc (iList K (tSl (rSlL K) (tVar 0) tNoPart (tPart (tI 63)))) (gName 1) tYes (tCB rAbs1 (tCons (tVar 1) tNil)) [1]) (tCons (tI 0) tNil)))
theorem deck_ok {H : Hp} {a : Addr} {ns : List Int} {E : Ends} (hs : SqL K H a (ns.map V.int)) (hl : ns.length ≤ 63) (q : ∀ (dk : Dk) (H' : Hp), Lh H H' → Wd K dk ⟨fun _ => none, []⟩ H' ⟨ns.map absI, 0, []⟩ → E.rt (.ref dk.1) H') :
    tDeck K E [some (.ref a), none] H := by
  refine ⟨_, rfl, _, rfl, a, _, rfl, hs, fun p hp => ?_⟩
  have ec : cutV (ns.map V.int) none (some 63) = ns.map V.int := by
    unfold cutV
    have e1 : HT.sIx (ns.map V.int).length 0 none = 0 := rfl
    have e2 : HT.sIx (ns.map V.int).length (ns.map V.int).length (some 63) = ns.length := by
      rw [List.length_map]
      have := HT.sIx_nat ns.length ns.length 63
      rw [show ((63 : Nat) : Int) = 63 from rfl] at this
      rw [this]; omega
    rw [e1, e2, List.drop_zero, Nat.sub_zero]
    exact List.take_of_length_le (by rw [List.length_map]; exact Nat.le_refl _)
  rw [ec]
  refine ⟨p, rfl, ⟨_, SqL.of upd_same⟩, fun c hc => ?_⟩
  have ncp : c ≠ p := fun z => by rw [z, upd_same] at hc; cases hc
  have hcH : H c = none := by rw [upd_ne ncp] at hc; exact hc
  refine lc_list (xs := ns.map V.int) (fun i H' => Lh H H' ∧ H' p = some (.lst (ns.map V.int)) ∧ H' c = some (.lst (((ns.take i).map absI).map V.int))) ⟨(Lh.new hp).trans (Lh.new hc), by rw [upd_ne ncp.symm, upd_same], upd_same⟩ (fun i H' _ h => SqL.of h.2.1) (fun i v H' hv h => ?_) fun H' h => ?_
  · obtain ⟨h1, h2, h3⟩ := h
    rw [List.getElem?_map] at hv
    obtain ⟨n, hn, rfl⟩ := mpd hv
    have hil : i < ns.length := by
      by_cases hi : i < ns.length
      · exact hi
      · rw [List.getElem?_eq_none (by omega)] at hn; cases hn
    refine ⟨rfl, ?_⟩
    show tCB rAbs1 (tCons (tVar 1) tNil) _ H' _
    refine ⟨_, rfl, n, rfl, _, h3, ?_, fun b o e => ?_, ?_, ?_⟩
    · rw [List.length_map, List.length_map, List.length_take]
      exact Nat.lt_of_le_of_lt (Nat.min_le_right _ _) (small1000 (by omega))
    · rw [upd_ne (ne_of_none e hcH)]; exact h1 b o e
    · rw [upd_ne ncp.symm]; exact h2
    · rw [upd_same, List.take_add_one, hn]
      simp [absI]
  · obtain ⟨h1, h2, h3⟩ := h
    rw [List.length_map, List.take_length] at h3
    refine ⟨by show 2 ≤ sizeLine; decide, fun d hd => ?_⟩
    have ndc : d ≠ c := fun z => by rw [z, h3] at hd; cases hd
    have fin := q (d, c) (upd H' d (.lst [.ref c, .int 0])) (h1.trans (Lh.new hd)) ⟨fun _ _ z => (nomatch z), upd_same, (upd_ne (a := d) ndc.symm).trans h3, ⟨rfl, fun z => nomatch z⟩, ⟨rfl, fun z => nomatch z⟩, ndc, rfl, List.nodup_nil, fun n a o z => by simp at z⟩
    exact fin
theorem fn_deck {x qual : Str} {st : Stmt} {f : Addr} {fd : FuncData} {N ps : List Str} {k : Nat} (Fn : Fun K x qual st f fd) (S : FnScope N ps (defScope st)) (hN : N.length = 2) (hp : ps.length = 1)
    (hbody : ∀ (cdv : Value) (A : Around) (outer : List Env) (s : Shared) (H : Hp) (E : XK), PSs (cxOf CX0 P w K mg base N qual (defScope st) f cdv A outer s H E).nox (defBody st) (tDeck K)) : FnG P w K mg base (k + 1) f fd ps (spDeck K) := by
  refine fnG_of Fn S (fun vs H Q E h => ?_) fun cdv A outer s H vs Q E hr gd h => ⟨_, hbody cdv A outer s H E, ?_⟩
  · obtain ⟨a, ns, rfl, _⟩ := h
    rw [hp]; rfl
  · obtain ⟨a, ns, rfl, hs, hl, q⟩ := h
    have es : L2.start N [V.ref a] = [some (.ref a), none] := by
      unfold L2.start
      rw [hN]
      rfl
    rw [es]
    exact deck_ok hs hl fun dk H' le wd => q dk H' le wd
noncomputable def spLaw (K : Fg) : Sp := fun vs H Q _ => ∃ (a : Addr) (ns : List Int), vs = [.ref a] ∧ SqL K H a (ns.map V.int) ∧ ns.length ≤ 63 ∧ ∀ H', Q (.bl true) H'
/-- the slots behind the law's first statement: the script, the deck, all else -/
noncomputable def env0 (n : Nat) : Sg := .un :: .val .deck :: List.replicate (n - 2) .un
theorem fn_law {x qual : Str} {st : Stmt} {f : Addr} {fd : FuncData} {N ps : List Str} {k : Nat} {b : MS} (Fn : Fun K x qual st f fd) (S : FnScope N ps (defScope st)) (hN : 2 ≤ N.length) (hp : ps.length = 1)
    (hb : ∀ ns : List Int, ns.length ≤ 63 → ∃ s1, b (env0 N.length) ⟨ns.map absI, 0, []⟩ = some (.rt (.bl true), s1))
    (hbody : ∀ (cdv : Value) (A : Around) (outer : List Env) (s : Shared) (H : Hp) (E : XK), Room k (A.deeper (envOfC qual (defScope st) s.heap.objs.size f cdv)) → (A.deeper (envOfC qual (defScope st) s.heap.objs.size f cdv)).guards = some [] →
      ∃ t, PSs (cxOf CX0 P w K mg base N qual (defScope st) f cdv A outer s H E).nox (defBody st) (tSeq (tAsg (tCall (spDeck K) [] E0 (tCons (tVar 0) tNil)) (gName 1)) t) ∧ ImS K t b) : FnG P w K mg base (k + 1) f fd ps (spLaw K) := by
  refine fnG_of Fn S (fun vs H Q E h => ?_) fun cdv A outer s H vs Q E hr gd h => ?_
  · obtain ⟨a, ns, rfl, _⟩ := h
    rw [hp]; rfl
  · obtain ⟨a, ns, rfl, hs, hl, q⟩ := h
    obtain ⟨t, h1, h2⟩ := hbody cdv A outer s H E hr gd
    refine ⟨_, h1, ?_⟩
    obtain ⟨m, hm⟩ : ∃ m, N.length = m + 2 := ⟨N.length - 2, by omega⟩
    have es : L2.start N [V.ref a] = some (.ref a) :: none :: List.replicate m none := by
      unfold L2.start
      rw [hm]
      rfl
    rw [es]
    refine ⟨_, rfl, a, ns, rfl, hs, hl, fun dk H' le wd => ?_⟩
    obtain ⟨s1, hr1⟩ := hb ns hl
    have g : Good K dk H' ⟨fun _ => none, []⟩ ⟨fun _ => none, []⟩ (some (.ref a) :: some (.ref dk.1) :: List.replicate m none) H' (env0 N.length) ⟨ns.map absI, 0, []⟩ := by
      refine ⟨wd, Ext.refl _ _, by unfold env0; rw [hm]; simp, fun i s e => ?_, fun i j ds es p hne e1 e2 e3 => ?_⟩
      · unfold env0 at e
        match i with
        | 0 => cases e; trivial
        | 1 => cases e; exact ⟨_, rfl, .deck⟩
        | i + 2 =>
          have e' : (List.replicate (N.length - 2) Sl.un)[i]? = some s := e
          rw [List.getElem?_replicate] at e'
          split at e'
          · cases e'; trivial
          · cases e'
      · exfalso
        unfold env0 at e1
        match i with
        | 0 => cases e1
        | 1 => cases e1
        | i + 2 =>
          have e' : (List.replicate (N.length - 2) Sl.un)[i]? = some (.own ds) := e1
          rw [List.getElem?_replicate] at e'
          split at e' <;> cases e'
    refine h2 dk H' _ _ _ H' _ _ _ s1 g hr1 _ ?_
    intro v F' H2 _ _ r
    cases r
    exact q H2
end
end MD
set_option Elab.async false
set_option linter.all false
set_option maxRecDepth 100000
set_option maxHeartbeats 2000000
namespace MD
open PySem PySem.Spec PyProof.Rows L2
variable {ww : WW}
/-- the law's own call, from a heap in which nothing is tracked but the script -/
theorem law_core {P : Program} {w : World} {K : Fg} {mg mb : Str → Option Value} {k : Nat} {fa a : Addr} {fd : FuncData} {x : Str} {sp : Sp} {s1 : Shared} {vs : List Value} (KX : K.In s1.heap) (hns : s1.heap.Ns mainGlobals mg) (hb : s1.heap.Ns builtinsNs mb)
    (hbb : ∀ y : Str, y ≠ "__name__" → mb y = bootBuiltins y) (hlim : s1.heap.NoLimit) (hg : s1.gens = #[]) (ha : s1.heap.get? a = some { cls := .type "list", data := .seq vs.toArray }) (hr : Room k callerA)
    (Fn : ∀ base : Heap, K.In base → base.Ns mainGlobals mg → FnG P w K mg base k fa fd [x] sp) (hbind : ∀ (s : Shared) (u : Value), BindsTo s fd ⟨[u], []⟩ [(x, u)])
    (H : Hp) (hO : Only H) (hok : HOk P w H s1.heap) (hA : ∀ b, H b ≠ none → b = a) (hK : H a ≠ none → K.lookup a = none) (hsp : sp [.ref a] H (fun v _ => v = .bl true) E0) :
    codeAny (model P w) callerA (.call (.ref fa) ⟨[.ref a], []⟩) (fun r s' => r = .ok (.ret (.bool true)) ∧ OldK s1.heap s'.heap ∧ s'.os = s1.os ∧ AllBare s'.gens) s1 := by
  have only : ∀ {b : Addr} {o : Obj} {es : Array DictEntry} {ep : Nat}, s1.heap.get? b = some o → o.data = .dict es ep → H b = none := by
    intro b o es ep e d
    by_cases hz : H b = none
    · exact hz
    · have hba := hA b hz
      rw [hba, ha] at e
      have e' := (Option.some.inj e).symm
      rw [e'] at d
      exact absurd d (fun z => Data.noConfusion z)
  have low : ∀ {b : Addr} {m : Str → Option Value}, s1.heap.Ns b m → (hidT s1.heap H).Ns b m := by
    intro b m hm
    obtain ⟨o, es, ep, e, d, r⟩ := hm
    exact ⟨o, es, ep, hidT_get e (only e d), d, r⟩
  have kin : K.In (hidT s1.heap H) := by
    intro b o e
    refine hidT_get (KX b o e) ?_
    by_cases hz : H b = none
    · exact hz
    · have hba := hA b hz
      rw [hba] at hz e
      rw [hK hz] at e
      cases e
  obtain ⟨mc, l1, l2⟩ := hlim
  have md : Mod K mg (hidT s1.heap H) := ⟨kin, low hns, ⟨mb, low hb, hbb⟩, ⟨mc, low l1, l2⟩⟩
  have en : Env0 P w K mg (hidT s1.heap H) callerA [] s1 H := by
    refine ⟨rfl, md, fun b o e => of_hidT e, Nat.le_of_eq (hidT_size _ _), trivial, fun b z => ?_, hok, .of_eq hg⟩
    exact absurd (show b ∈ ([] : List Addr) from z) (by simp)
  refine codeAny_mono ((Fn _ kin (low hns)).run callerA [] s1 H ⟨[.ref a], []⟩ [.ref a] [.ref a] _ _ hr rfl en (hbind s1 (.ref a)) (.cons rfl .nil) hsp) fun r s' h => ?_
  rcases r with er | fl
  · exact False.elim h
  · cases fl with
    | ret u =>
      obtain ⟨v, H', os, bare, un, hok', r', q⟩ := h
      replace q : v = .bl true := q
      rw [q] at r'
      have hu : u = Value.bool true := r'
      rw [hu]
      refine ⟨rfl, OldK.of_keep fun b o e => ?_, os, bare⟩
      by_cases hz : H b = none
      · exact un.keep b o e hz (fun z => absurd (show b ∈ ([] : List Addr) from z) (by simp)) (by simp)
      · rcases hO b with z | ⟨ob, xs, z⟩
        · exact absurd z hz
        · have k1 := (hok b _ z).1
          have k2 := (hok' b _ (un.frzs b ob _ z)).1
          rw [e] at k1
          rw [k2, k1]
    | next => exact False.elim h
    | brk => exact False.elim h
    | cont => exact False.elim h
theorem law_callG {P : Program} {w : World} {K : Fg} {mg mb : Str → Option Value} {k : Nat} {fa a : Addr} {fd : FuncData} {x : Str} {sp : Sp} {s1 : Shared} {vs : List Value} {ns : List Int} (KX : K.In s1.heap) (hns : s1.heap.Ns mainGlobals mg) (hb : s1.heap.Ns builtinsNs mb)
    (hbb : ∀ y : Str, y ≠ "__name__" → mb y = bootBuiltins y) (hlim : s1.heap.NoLimit) (hg : s1.gens = #[]) (ha : s1.heap.get? a = some { cls := .type "list", data := .seq vs.toArray }) (hi : IntsAre vs ns) (hl : ns.length ≤ sizeLine) (hr : Room k callerA)
    (Fn : ∀ base : Heap, K.In base → base.Ns mainGlobals mg → FnG P w K mg base k fa fd [x] sp) (hbind : ∀ (s : Shared) (u : Value), BindsTo s fd ⟨[u], []⟩ [(x, u)])
    (hsp : ∀ H : Hp, SqL K H a (ns.map V.int) → sp [.ref a] H (fun v _ => v = .bl true) E0) :
    codeAny (model P w) callerA (.call (.ref fa) ⟨[.ref a], []⟩) (fun r s' => r = .ok (.ret (.bool true)) ∧ OldK s1.heap s'.heap ∧ s'.os = s1.os ∧ AllBare s'.gens) s1 := by
  have rv := vals_ints hi
  have lenV := hi.length
  by_cases hk : K.lookup a = none
  · let H : Hp := fun b => if b = a then some (.frz { cls := .type "list", data := .seq vs.toArray } (.lst (ns.map V.int))) else none
    have atA : H a = some (.frz { cls := .type "list", data := .seq vs.toArray } (.lst (ns.map V.int))) := if_pos rfl
    have off : ∀ b, b ≠ a → H b = none := fun b z => if_neg z
    refine law_core KX hns hb hbb hlim hg ha hr Fn hbind H (fun b => ?_) (fun b u z => ?_) (fun b z => ?_) (fun _ => hk) (hsp H (.inl (.inr ⟨_, atA⟩)))
    · by_cases e : b = a
      · rw [e]; exact .inr ⟨_, _, atA⟩
      · exact .inl (off b e)
    · by_cases e : b = a
      · rw [e, atA] at z
        cases z
        rw [e]
        exact ⟨ha, by rw [List.length_map]; exact hl, vs, _, rv, ha⟩
      · rw [off b e] at z; cases z
    · by_cases e : b = a
      · exact e
      · exact absurd (off b e) z
  · obtain ⟨o, ho⟩ : ∃ o, K.lookup a = some o := Option.ne_none_iff_exists'.mp hk
    have e := KX a o ho
    rw [ha] at e
    have eo : o = { cls := .type "list", data := .seq vs.toArray } := (Option.some.inj e).symm
    subst eo
    refine law_core KX hns hb hbb hlim hg ha hr Fn hbind (fun _ => none) (fun _ => .inl rfl) (fun b u z => nomatch (show (none : Option HO) = some u from z)) (fun b z => absurd rfl z) (fun z => absurd rfl z) (hsp _ ?_)
    exact .inr ⟨_, vs.toArray, _, ho, rfl, rfl, rfl, by rw [List.size_toArray, lenV]; exact hl, by simpa using rv⟩
/-- what k_head leaves, from the law's promise -/
theorem walkG {l : PySem.W.OpenLaw} {n k : Nat} {q : Program} {loose : List Str} {XP : (Str → Option Value) → Heap → Prop} {YP : World → Heap → Prop} {d : DefRec} {K : Params → Fg} {x : Str} (hn : l.most = some n) (hn2 : n ≤ 63) (hdf : d.params.defaults = []) (hr : Room k callerA)
    (hY : ∀ (w : World) (h : Heap), YP w h → (K w.params).In h)
    (Fn : ∀ (w : World) (mg : Str → Option Value) (fa : Addr) (h : Heap), (K w.params).In h → h.Ns mainGlobals mg → mg d.name = some (.ref fa) →
      ∃ fd : FuncData, (∀ (s : Shared) (u : Value), BindsTo s fd ⟨[u], []⟩ [(x, u)]) ∧ ∀ base : Heap, (K w.params).In base → base.Ns mainGlobals mg → FnG l.prog w (K w.params) mg base k fa fd [x] (spLaw (K w.params))) :
    PySem.W.WalkO q loose XP YP l.row.toRowW d [] (fun f vs => PySem.call f vs) := by
  refine Att.attach_call hn hdf fun w s₀ s₁ mg mb fa o pm cd doc a vs ns G Y ho hd hcd hmg hobj hints hlen hg => ?_
  have KX := hY w _ Y
  obtain ⟨fd, hb, hF⟩ := Fn w mg fa _ KX G.T.g hmg
  have small : ns.length ≤ sizeLine := Nat.le_trans (Nat.le_trans hlen hn2) (by decide)
  exact law_callG KX G.T.g G.T.b G.T.builtins G.T.nolimit hg hobj hints small hr hF hb fun H hS => ⟨a, ns, rfl, hS, Nat.le_trans hlen hn2, fun _ => rfl⟩
end MD
set_option Elab.async false
set_option linter.all false
set_option maxRecDepth 100000
set_option maxHeartbeats 2000000
namespace MD
open PySem PySem.Spec PyProof.Rows L2
variable {ww : WW}
section
variable {K : Fg} {dk : Dk} {F F' F0 : Fz} {H H' H0 : Hp} {X : Cx}
noncomputable def rAddA (K : Fg) : R2 := fun x y H Q => rI0 (fun i j => .int (i + j)) x y H Q ∨ (∃ i j, x = .str i ∧ y = .str j ∧ i.length + j.length ≤ sizeLine ∧ Q (.str (i ++ j)) H) ∨ rCatA K x y H Q ∨ rCat x y H Q
theorem op_addA : OpR X (binaryOp .Add) (rAddA X.K) := OpR.or op_add (OpR.or op_add_str (OpR.or op_catA op_cat))
noncomputable def addM : D → D → Option D
  | .int i, .int j => some (.int (i + j))
  | .str i, .str j => if i.length + j.length ≤ sizeLine then some (.str (i ++ j)) else none
  | .tup i, .tup j => if i.length + j.length ≤ sizeLine then some (.tup (i ++ j)) else none
  | .lst i, .lst j => if i.length + j.length ≤ sizeLine then some (.lst (i ++ j)) else none
  | _, _ => none
theorem ro_addA : RO K (rAddA K) addM := by
  intro dk F H st x y d e z w rx ry hz Q q
  unfold addM at hz
  split at hz
  · exact .inl (ro_I0 (fun i j => rc_int (i + j)) dk F H st x y _ _ z w rx ry hz Q q)
  · exact .inr (.inl (ro_strCat dk F H st x y _ _ z w rx ry hz Q q))
  · exact .inr (.inr (.inl (ro_tupCat dk F H st x y _ _ z w rx ry hz Q q)))
  · refine .inr (.inr (.inr (rof_lstCat.ro dk F H st x y _ _ z w rx ry ?_ Q q)))
    unfold lstCat
    split at hz
    · rename_i hc
      simp only [hc, if_true]; exact hz
    · cases hz
  · cases hz
noncomputable abbrev subM : D → D → Option D := iI fun i j => .int (i - j)
noncomputable abbrev mulM : D → D → Option D := iIC CMul fun i j => .int (i * j)
noncomputable abbrev powM : D → D → Option D := iIC CPow fun i j => .int (i ^ j.toNat)
noncomputable abbrev ltM : D → D → Option D := iI fun i j => .bl (decide (i < j))
noncomputable abbrev leM : D → D → Option D := iI fun i j => .bl (decide (i ≤ j))
noncomputable abbrev gtM : D → D → Option D := iI fun i j => .bl (decide (j < i))
noncomputable abbrev geM : D → D → Option D := iI fun i j => .bl (decide (j ≤ i))
theorem ro_sub : RO K (rI0 fun i j => .int (i - j)) subM := ro_I0 fun i j => rc_int _
theorem ro_pow : RO K (rI CPow fun i j => .int (i ^ j.toNat)) powM := ro_I fun i j => rc_int _
theorem ro_lt : RO K (rI0 fun i j => .bl (decide (i < j))) ltM := ro_I0 fun i j => rc_bl _
theorem ro_le : RO K (rI0 fun i j => .bl (decide (i ≤ j))) leM := ro_I0 fun i j => rc_bl _
theorem ro_gt : RO K (rI0 fun i j => .bl (decide (j < i))) gtM := ro_I0 fun i j => rc_bl _
theorem ro_ge : RO K (rI0 fun i j => .bl (decide (j ≤ i))) geM := ro_I0 fun i j => rc_bl _
noncomputable def rInA (K : Fg) : R2 := fun x y H Q => (∃ (c : Nat) (z : Str), x = .str ⟨#[c]⟩ ∧ y = .str z ∧ Q (.bl (decide (c ∈ z.cps.toList))) H) ∨ rIn K false x y H Q
theorem op_inA : OpR X (compareOp .In) (rInA X.K) := OpR.or op_in_sign op_in_seq
noncomputable def inM (d e : D) : Option D := match e with
  | .str _ => inSign d e
  | _ => inSeq false d e
noncomputable def notInM (d e : D) : Option D := match e with
  | .str _ => notInSign d e
  | _ => inSeq true d e
theorem ro_in : RO K (rInA K) inM := by
  intro dk F H st x y d e z w rx ry hz Q q
  unfold inM at hz
  split at hz
  · exact .inl (ro_inSign dk F H st x y _ _ z w rx ry hz Q q)
  · exact .inr (ro_inSeq false dk F H st x y _ _ z w rx ry hz Q q)
noncomputable def rTupA (K : Fg) : List V → Hp → VK → Prop := fun xs H Q => (∃ p ys, xs = [.ref p] ∧ ((SqL K H p ys ∧ ∀ l, H l = none → Q (.ref l) (upd H l (.tup ys))) ∨ (SqT K H p ys ∧ Q (.ref p) H))) ∨
  ∃ x, xs = [.str x] ∧ x.cps.size ≤ sizeLine ∧ ∀ p, H p = none → Q (.ref p) (upd H p (.tup ((signs x).map V.str)))
theorem call_tupA (hc : X.calm = true) : CallR X (.type "tuple") (rTupA X.K) := CallR.or call_tuple_of (call_tupStr hc)
noncomputable def tupleM : List D → Option D
  | [.lst ds] => some (.tup ds)
  | [.tup ds] => some (.tup ds)
  | [.str x] => if x.cps.size ≤ sizeLine then some (.tup ((signs x).map D.str)) else none
  | _ => none
theorem rc_tupA : RC K (rTupA K) tupleM := by
  intro dk F H st vs ds z w rx hz Q q
  unfold tupleM at hz
  split at hz
  · exact .inl (rc_tupOf dk F H st vs _ z w rx hz Q q)
  · exact .inl (rc_tupOf dk F H st vs _ z w rx hz Q q)
  · exact .inr (rc_tupStr dk F H st vs _ z w rx hz Q q)
  · cases hz
theorem pe_gstr {x : Str} {s : Str} {pos : Pos} (hg : Gl X x) (hm : ∃ t, X.mg x = some (.str s t)) (hd : (x == ("__debug__" : Str)) = false := by decide) : PE X (.Name x pos) (tC (.str s)) := by
  obtain ⟨t, h⟩ := hm
  exact pe_glob hg h ⟨t, rfl⟩ hd
theorem pe_gint {x : Str} {i : Int} {pos : Pos} (hg : Gl X x) (hm : ∃ t, X.mg x = some (.int i t)) (hd : (x == ("__debug__" : Str)) = false := by decide) : PE X (.Name x pos) (tC (.int i)) := by
  obtain ⟨t, h⟩ := hm
  exact pe_glob hg h ⟨t, rfl⟩ hd
end
noncomputable def Cal (P : Program) (w : World) (K : Fg) (mg : Str → Option Value) (base : Heap) (k : Nat) (x : Str) (ps : List Str) (sp : Sp) : Prop :=
  ∃ f fd, FnG P w K mg base k f fd ps sp ∧ mg x = some (.ref f) ∧ PySem.W.keepIn K (.ref f) = true ∧ Binds K fd ps []
section
variable {X : Cx} {k j : Nat} {ps : List Str} {sp : Sp} {x : Str} {p pos : Pos} {e : Expr} {es : List Expr} {t : TA}
theorem pe_callC (C : Cal X.prog X.w X.K X.mg X.base j x ps sp) (hr : Room k X.A) (gd : X.A.guards = some []) (hg : Gl X x) (ha : PA X (e :: es) t) (hj : j ≤ k := by decide) (hdb : (x == ("__debug__" : Str)) = false := by decide)
    (he : starEach (e :: es) X.env = (false, eval e X.env) :: starEach es X.env := by rfl) (hpl : (backTo pos (starEach es X.env)).any (·.1) = false := by rfl) : PE X (.Call (.Name x p) (e :: es) [] pos) (tCall sp [] E0 t) := by
  obtain ⟨f, fd, F, hm, hk, hb⟩ := C
  exact pe_callG F (hr.mono hj) gd hg hm hk hb ha hdb he hpl
end
end MD
set_option Elab.async false
set_option linter.all false
set_option maxRecDepth 100000
set_option maxHeartbeats 1000000
namespace MD
open PySem L2
variable {ww : WW}
noncomputable def keyOf : D → Option Key
  | .int i => some (.inl i)
  | .str x => some (.inr x)
  | _ => none
noncomputable def keyD : Key → D
  | .inl i => .int i
  | .inr x => .str x
section
variable {K : Fg} {dk : Dk} {F F' F0 : Fz} {H H' H0 : Hp} {σ : L2.St} {env : Sg} {st : S}
theorem keyOf_rw {v : V} {d : D} {k : Key} (r : Rw K dk F H v d) (h : keyOf d = some k) : v = kV k := by
  cases d with
  | int i => cases h; exact r.int
  | str x => cases h; exact r.str
  | _ => cases h
noncomputable def getK {α : Type} : List Key → List α → Key → Option α
  | k' :: ks, x :: xs, k => if k' = k then some x else getK ks xs k
  | _, _, _ => none
theorem getK_val : ∀ {vs : List V} {ds : List D} (ks : List Key) (k : Key), Rps K dk F vs ds → ks.length = vs.length →
    (∀ d, getK ks ds k = some d → ∃ v, valV (ks.zip vs) k = some v ∧ Rp K dk F v d) ∧ (getK ks ds k = none → valV (ks.zip vs) k = none)
  | _, _, [], k, .nil, _ => ⟨fun d h => (by cases h), fun _ => rfl⟩
  | _, _, [], k, .cons a r, h => by simp at h
  | _, _, k' :: ks, k, .nil, h => by simp at h
  | v :: vs, d :: ds, k' :: ks, k, .cons a r, h => by
    obtain ⟨i1, i2⟩ := getK_val ks k r (by simpa using h)
    rw [List.zip_cons_cons]
    unfold getK
    by_cases e : k' = k
    · rw [if_pos e, valV_pos (p := (k', v)) e]
      exact ⟨fun d' h => (by cases h; exact ⟨v, rfl, a⟩), fun h => (by cases h)⟩
    · rw [if_neg e, valV_neg (p := (k', v)) e]
      exact ⟨i1, i2⟩
noncomputable def hasK (ks : List Key) (k : Key) : Bool := ks.any fun k' => decide (k' = k)
noncomputable def putKs (ks : List Key) (k : Key) : List Key := if hasK ks k = true then ks else ks ++ [k]
noncomputable def putVs {α : Type} (ks : List Key) (xs : List α) (k : Key) (x : α) : List α := if hasK ks k = true then List.zipWith (fun k' x' => if k' = k then x else x') ks xs else xs ++ [x]
theorem pe_or {X : Cx} {e : Expr} {t t' : TE} (h : PE X e t) (h' : PE X e t') : PE X e (fun σ H Q => t σ H Q ∨ t' σ H Q) :=
  ⟨fun pins s σ H Q I q => q.elim (h.run pins s σ H Q I) (h'.run pins s σ H Q I)⟩
noncomputable def dgetD : List Key → List D → D → Option D := fun ks ds k => (keyOf k).bind fun k => getK ks ds k
noncomputable def subD (d e : D) : Option D := match d with
  | .dic ks ds => dgetD ks ds e
  | d => ixM d e
noncomputable def tSub (K : Fg) (ta tb : TE) : TE := fun σ H Q => tDGet ta tb σ H Q ∨ tOp (rIx K) ta tb σ H Q
theorem pe_sub {X : Cx} {o i : Expr} {pos : Pos} {ta tb : TE} (hu : X.A.units + 1 < cLine) (ho : PE X o ta) (hi : PE X i tb) (hs : NoSl i := by intro _ _; rfl) (hs' : PlainIx i := by intro _ _; rfl) : PE X (.Subscript o i pos) (tSub X.K ta tb) :=
  pe_or (pe_dget hu ho hi hs) (pe_ix ix_seq ho hi hs')
theorem im_sub {ta tb : TE} {fa fb : ME} (ha : ImW K ta fa) (hb : ImW K tb fb) : Im K (tSub K ta tb) (opM subD fa fb) := fun dk H0 F0 F σ H env st d st' g e Q q => by
  obtain ⟨⟨x, s1⟩, h1, e'⟩ := bnd e
  obtain ⟨⟨y, s2⟩, h2, e'⟩ := bnd e'
  obtain ⟨z, h3, e'⟩ := mpd e'
  cases e'
  by_cases hd : ∃ ks ds, dr s2 x = .dic ks ds
  · obtain ⟨ks, ds, hd⟩ := hd
    refine .inl ?_
    refine ha dk H0 F0 F σ H env st x s1 g h1 _ fun v F1 H1 x1 g1 r1 => ?_
    refine hb dk H0 F0 F1 σ H1 env s1 y _ g1 h2 _ fun u F2 H2 x2 g2 r2 => ?_
    have r3 := (r1.ext x2).dr g2.wd
    rw [hd] at r3
    obtain ⟨p, vs, rfl, hr, hl, r⟩ := r3.d g2.wd.sub
    replace h3 : subD (dr s2 x) (dr s2 y) = some d := h3
    rw [hd] at h3
    obtain ⟨k, h4, h5⟩ := bnd (show (keyOf (dr s2 y)).bind (fun k => getK ks ds k) = some d from h3)
    obtain ⟨w, hw, rw'⟩ := (getK_val ks k r hl).1 _ h5
    exact ⟨p, w, rfl, .inl ⟨_, k, hr, keyOf_rw (r2.dr g2.wd) h4, hw.symm⟩, q w F2 H2 (x1.trans x2) g2 rw'⟩
  · refine .inr (im_op ro_ix ha hb dk H0 F0 F σ H env st d s2 g ?_ Q q)
    unfold opM
    rw [h1]
    show ((fb env s1).bind _) = _
    rw [h2]
    show (ixM (dr s2 x) (dr s2 y)).map _ = _
    have : subD (dr s2 x) (dr s2 y) = ixM (dr s2 x) (dr s2 y) := by
      unfold subD
      split
      · rename_i ks ds hx
        exact absurd ⟨ks, ds, hx⟩ hd
      · rfl
    rw [← this, show subD (dr s2 x) (dr s2 y) = some d from h3]
    rfl
noncomputable def cntD (neg : Bool) (d e : D) : Option D := match e with
  | .dic ks ds => (keyOf d).map fun k => .bl (if neg then !(getK ks ds k).isSome else (getK ks ds k).isSome)
  | e => if neg then notInM d e else inM d e
noncomputable def tIn (K : Fg) (ta tb : TE) : TE := fun σ H Q => tDIn ta tb σ H Q ∨ tOp (rInA K) ta tb σ H Q
theorem im_inX (neg : Bool) {ta tb t : TE} {fa fb : ME} (r : R2) (ro : RO K r (fun d e => if neg then notInM d e else inM d e))
    (hin : ∀ σ H Q, (ta σ H fun y H1 => tb σ H1 fun x H2 => ∃ a o, x = .ref a ∧ DGet H2 a y o ∧ Q (.bl (if neg then !o.isSome else o.isSome)) H2) ∨ tOp r ta tb σ H Q → t σ H Q) (ha : ImW K ta fa) (hb : ImW K tb fb) : Im K t (opM (cntD neg) fa fb) := fun dk H0 F0 F σ H env st d st' g e Q q => by
  obtain ⟨⟨x, s1⟩, h1, e'⟩ := bnd e
  obtain ⟨⟨y, s2⟩, h2, e'⟩ := bnd e'
  obtain ⟨z, h3, e'⟩ := mpd e'
  cases e'
  refine hin σ H Q ?_
  by_cases hd : ∃ ks ds, dr s2 y = .dic ks ds
  · obtain ⟨ks, ds, hd⟩ := hd
    refine .inl ?_
    refine ha dk H0 F0 F σ H env st x s1 g h1 _ fun v F1 H1 x1 g1 r1 => ?_
    refine hb dk H0 F0 F1 σ H1 env s1 y _ g1 h2 _ fun u F2 H2 x2 g2 r2 => ?_
    have r3 := r2.dr g2.wd
    rw [hd] at r3
    obtain ⟨p, vs, rfl, hr, hl, r⟩ := r3.d g2.wd.sub
    replace h3 : cntD neg (dr s2 x) (dr s2 y) = some d := h3
    rw [hd] at h3
    obtain ⟨k, h4, h5⟩ := mpd (show (keyOf (dr s2 x)).map (fun k => D.bl (if neg then !(getK ks ds k).isSome else (getK ks ds k).isSome)) = some d from h3)
    subst h5
    obtain ⟨i1, i2⟩ := getK_val ks k r hl
    refine ⟨p, _, rfl, .inl ⟨_, k, hr, keyOf_rw ((r1.ext x2).dr g2.wd) h4, rfl⟩, ?_⟩
    have es : (valV (ks.zip vs) k).isSome = (getK ks ds k).isSome := by
      cases hk : getK ks ds k with
      | none => rw [i2 hk]; rfl
      | some w => obtain ⟨u, hu, _⟩ := i1 w hk; rw [hu]; rfl
    rw [es]
    exact q _ F2 H2 (x1.trans x2) g2 (.bl _)
  · refine .inr (im_op ro ha hb dk H0 F0 F σ H env st d s2 g ?_ Q q)
    unfold opM
    rw [h1]
    show ((fb env s1).bind _) = _
    rw [h2]
    show ((fun d e => if neg then notInM d e else inM d e) (dr s2 x) (dr s2 y)).map _ = _
    have : cntD neg (dr s2 x) (dr s2 y) = if neg then notInM (dr s2 x) (dr s2 y) else inM (dr s2 x) (dr s2 y) := by
      unfold cntD
      split
      · rename_i ks ds hx
        exact absurd ⟨ks, ds, hx⟩ hd
      · rfl
    dsimp only
    rw [← this, show cntD neg (dr s2 x) (dr s2 y) = some d from h3]
    rfl
theorem im_in {ta tb : TE} {fa fb : ME} (ha : ImW K ta fa) (hb : ImW K tb fb) : Im K (tIn K ta tb) (opM (cntD false) fa fb) := im_inX false (rInA K) ro_in (fun σ H Q h => h) ha hb
theorem call_lenR {X : Cx} : CallR X (.builtin "len") (fun xs H Q => ∃ a kvs, xs = [V.ref a] ∧ Rd H a (.dK kvs) ∧ Q (.int kvs.length) H) := by
  intro pins s σ H xs us Q I r h
  obtain ⟨a, kvs, rfl, ha, q⟩ := h
  obtain ⟨u, rfl, ru⟩ := vals1 r
  cases ru
  exact d_len I ha fun t s' I' => ⟨.int kvs.length, H, I', ⟨t, rfl⟩, q⟩
noncomputable def lenA : List D → Option D
  | [.dic ks _] => some (.int ks.length)
  | ds => lenM ds
noncomputable def rLenA (K : Fg) : List V → Hp → VK → Prop := fun xs H Q => (∃ a kvs, xs = [V.ref a] ∧ Rd H a (.dK kvs) ∧ Q (.int kvs.length) H) ∨ ∃ x n, xs = [x] ∧ LenV K x H n ∧ Q (.int n) H
theorem call_lenA {X : Cx} : CallR X (.builtin "len") (rLenA X.K) := CallR.or call_lenR call_len
theorem rc_lenA : RC K (rLenA K) lenA := by
  intro dk F H st vs ds z w rx hz Q q
  unfold lenA at hz
  split at hz
  · cases hz
    obtain ⟨v, rfl, r⟩ := rx.one
    obtain ⟨p, vs, rfl, hr, hl, r⟩ := r.d w.sub
    refine .inl ⟨p, _, rfl, hr, ?_⟩
    rw [List.length_zip, hl, Nat.min_self, ← hl]
    exact q _ F H (Px.refl w.sub) (.int _)
  · exact .inr (rc_len dk F H st vs _ z w rx hz Q q)
noncomputable def isDicD : D → Option (List Key × List D)
  | .dic ks ds => some (ks, ds)
  | _ => none
noncomputable def get1M (fd fk : ME) : ME := fun env st => (fd env st).bind fun p => (isDicD (dr p.2 p.1)).bind fun _ => (fk env p.2).bind fun q => (isDicD (dr q.2 p.1)).bind fun z => (keyOf q.1).map fun k => ((getK z.1 z.2 k).getD .non, q.2)
noncomputable def get2M (fd fk fx : ME) : ME := fun env st => (fd env st).bind fun p => (isDicD (dr p.2 p.1)).bind fun _ => (fk env p.2).bind fun q => (fx env q.2).bind fun r => (isDicD (dr r.2 p.1)).bind fun z => (keyOf q.1).map fun k => ((getK z.1 z.2 k).getD r.1, r.2)
noncomputable def dputM (i : Nat) (fk fv : ME) : MS := fun env st => match env[i]? with
  | some (.own (.dic ks, ds)) => (fv env st).bind fun p => (fk env p.2).bind fun q => (keyOf q.1).bind fun k => if ds.length < sizeLine then some (.nx (env.set i (.own (.dic (putKs ks k), putVs ks ds k p.1))), q.2) else none
  | _ => none
noncomputable abbrev MK := Sg → S → Option ((List Key × List D) × S)
noncomputable def ImK [WW] (K : Fg) (te : TE) (f : MK) : Prop := ∀ (dk : Dk) (H0 : Hp) (F0 F : Fz) (σ : L2.St) (H : Hp) (env : Sg) (st : S) (q : List Key × List D) (st' : S), Good K dk H0 F0 F σ H env st → f env st = some (q, st') →
  ∀ Q : VK, (∀ p vs F' H', Ext dk F H F' H' → Good K dk H0 F0 F' σ H' env st' → H p = none → F'.out p → H' p = some (.dK (q.1.zip vs)) → q.1.length = vs.length → Rps K dk F' vs q.2 → Q (.ref p) H') → te σ H Q
noncomputable def frzK (f : MK) : ME := fun env st => (f env st).map fun p => (.dic p.1.1 p.1.2, p.2)
theorem ImK.im {te : TE} {f : MK} (h : ImK K te f) : Im K te (frzK f) := fun dk H0 F0 F σ H env st d st' g e Q q => by
  obtain ⟨⟨⟨ks, ds⟩, s1⟩, h1, h2⟩ := mpd e
  cases h2
  refine h dk H0 F0 F σ H env st _ s1 g h1 Q fun p vs F' H' x g' hp fp hl hl2 r => ?_
  have nd := g.nedk hp
  have le : Le F' (F'.up p (.dK (ks.zip vs))) := Le.new fp.1
  exact q (.ref p) _ H' (x.freeze hp fp) (g'.freeze hl fp (g.fresh0 hp) nd.1 nd.2 (g.noown hp)) (.dic Fz.up_same hl2 (r.mono le))
theorem ImK.w {te : TE} {f : MK} (h : ImK K te f) : ImW K te (frzK f) := h.im.w
noncomputable def ownK (i : Nat) (f : MK) : MS := fun env st => (f env st).map fun p => (.nx (env.set i (.own (.dic p.1.1, p.1.2))), p.2)
noncomputable def mrgL {α : Type} : List Key → List α → List (Key × α) → List Key × List α
  | ks, xs, [] => (ks, xs)
  | ks, xs, (k, x) :: r => mrgL (putKs ks k) (putVs ks xs k x) r
inductive Rpk (K : Fg) (dk : Dk) (F : Fz) : List (Key × V) → List (Key × D) → Prop
  | nil : Rpk K dk F [] []
  | cons {k : Key} {v : V} {d : D} {kvs : List (Key × V)} {kds : List (Key × D)} : Rp K dk F v d → Rpk K dk F kvs kds → Rpk K dk F ((k, v) :: kvs) ((k, d) :: kds)
theorem Rpk.mono (le : Le F F') : ∀ {kvs : List (Key × V)} {kds : List (Key × D)}, Rpk K dk F kvs kds → Rpk K dk F' kvs kds
  | _, _, .nil => .nil
  | _, _, .cons a b => .cons (a.mono le) (Rpk.mono le b)
theorem Rpk.length : ∀ {kvs : List (Key × V)} {kds : List (Key × D)}, Rpk K dk F kvs kds → kvs.length = kds.length
  | _, _, .nil => rfl
  | _, _, .cons a b => by simp [Rpk.length b]
noncomputable abbrev MP := Sg → S → Option (List (Key × D) × S)
noncomputable def pCons (fk fv : ME) (r : MP) : MP := fun env st => (fk env st).bind fun p => (keyOf p.1).bind fun k => (fv env p.2).bind fun q => (r env q.2).map fun z => ((k, q.1) :: z.1, z.2)
noncomputable def dispK (f : MP) : MK := fun env st => (f env st).bind fun p => if p.1.length ≤ 15 then some (mrgL [] [] p.1, p.2) else none
/-- {} -/
noncomputable def newK : MK := fun env st => some (([], []), st)
theorem ik_new : ImK K tDNewK newK := fun dk H0 F0 F σ H env st kd st' g e Q q => by
  cases e
  intro p hp
  have px : Px F H F (upd H p (.dK [])) := Px.lay g.wd.sub hp
  exact q p [] F _ px.ext (g.px px) hp (g.wd.out hp) upd_same rfl .nil
/-- dict(d) -/
noncomputable def cpyK (f : ME) : MK := fun env st => (f env st).bind fun p => (isDicD (dr p.2 p.1)).map fun q => (q, p.2)
end
end MD
set_option Elab.async false
set_option linter.all false
set_option maxRecDepth 100000
set_option maxHeartbeats 1000000
namespace MD
open PySem L2
variable {ww : WW}
noncomputable def S.put (st : S) (n : Nat) (o : Ob) : S := { st with ob := st.ob.set n o }
section
variable {K : Fg} {dk : Dk} {F F' F0 : Fz} {H H' H0 : Hp} {σ σ' : L2.St} {env env' : Sg} {st st' st'' : S}
theorem mu_lt {n : Nat} {a : Addr} (h : F.mu[n]? = some a) : n < F.mu.length := by
  by_cases hl : n < F.mu.length
  · exact hl
  · rw [List.getElem?_eq_none (by omega)] at h; cases h
theorem Wd.ndk (w : Wd K dk F H st) {a : Addr} (h : a ∈ F.mu) : a ≠ dk.1 ∧ a ≠ dk.2 := ⟨fun z => w.f1.2 (z ▸ h), fun z => w.f2.2 (z ▸ h)⟩
theorem Wd.put {n : Nat} {a : Addr} {o' : HO} {ob' : Ob} (w : Wd K dk F H st) (hn : F.mu[n]? = some a) (ho : ObAt K dk F (L2.upd H a o') a ob') : Wd K dk F (L2.upd H a o') (st.put n ob') := by
  have hm := List.mem_of_getElem? hn
  obtain ⟨n1, n2⟩ := w.ndk hm
  have hln := mu_lt hn
  obtain ⟨fa, _⟩ := w.ob n a _ hn (List.getElem?_eq_getElem (by rw [← w.ml]; exact hln))
  refine ⟨fun b u e => ?_, by rw [upd_ne n1.symm]; exact w.d1, by rw [upd_ne n2.symm]; exact w.d2, w.f1, w.f2, w.ne, by rw [w.ml]; simp [S.put], w.nd, fun m b u h1 h2 => ?_⟩
  · rw [upd_ne (ne_of_none e fa)]; exact w.sub b u e
  · by_cases hmn : n = m
    · subst hmn
      rw [hn] at h1; cases h1
      have h2' : (st.ob.set n ob')[n]? = some u := h2
      rw [List.getElem?_set_self (by rw [← w.ml]; exact hln)] at h2'
      cases h2'
      exact ⟨fa, ho⟩
    · have h2' : (st.ob.set n ob')[m]? = some u := h2
      rw [List.getElem?_set_ne hmn] at h2'
      obtain ⟨q1, q2⟩ := w.ob m b u h1 h2'
      have nb : b ≠ a := fun z => hmn (by
        subst z
        exact (List.getElem?_inj hln w.nd).mp (hn.trans h1.symm))
      exact ⟨q1, q2.keep (fun _ e => by rw [upd_ne nb]; exact e) (Le.refl F)⟩
theorem Ext.put {n : Nat} {a : Addr} {o o' : HO} (x : Ext dk F0 H0 F H) (hn : F.mu[n]? = some a) (ha : H a = some o) (nf : ¬ Fro o) (nf' : ¬ Fro o') : Ext dk F0 H0 F (L2.upd H a o') := by
  have hm := List.mem_of_getElem? hn
  refine ⟨fun b u e n1 n2 n3 => ?_, x.f, x.n, fun b e z => ?_, x.u, fun b u e f => x.k b u (updK nf' b u e f) f⟩
  · have e' := x.h b u e n1 n2 n3
    by_cases nb : b = a
    · subst nb
      rw [ha] at e'; cases e'
      rcases n3 with n3 | n3
      · rcases x.u b hm with q | q
        · exact absurd q n3
        · rw [q] at e; cases e
      · exact absurd n3 nf
    · rw [upd_ne nb]; exact e'
  · by_cases nb : b = a
    · subst nb; rw [upd_same] at z; cases z
    · rw [upd_ne nb] at z; exact x.m b e z
theorem Good.put {n : Nat} {a : Addr} {o o' : HO} {ob' : Ob} (g : Good K dk H0 F0 F σ H env st) (hn : F.mu[n]? = some a) (ha : H a = some o) (nf : ¬ Fro o) (ho : ObAt K dk F (upd H a o') a ob')
    (nf' : ¬ Fro o' := by rintro ⟨_, _, z⟩; cases z) : Good K dk H0 F0 F σ (upd H a o') env (st.put n ob') := by
  refine ⟨g.wd.put hn ho, g.ext.put hn ha nf nf', g.len, fun i s e => ?_, g.dis⟩
  have q := g.sl i s e
  cases s with
  | un => trivial
  | val d => exact q
  | cap o => cases o <;> exact q
  | own ds =>
    obtain ⟨p, vs, h1, h2, h3, h4⟩ := q
    have np : p ≠ a := fun z => h3.2 (z ▸ List.mem_of_getElem? hn)
    exact ⟨p, vs, h1, h2.keep fun o e => by rw [upd_ne np]; exact e, h3, h4⟩
noncomputable def Fz.ad (F : Fz) (p : Addr) : Fz := ⟨F.hp, F.mu ++ [p]⟩
noncomputable def S.ad (st : S) (o : Ob) : S := { st with ob := st.ob ++ [o] }
theorem Le.ad {p : Addr} : Le F (F.ad p) := ⟨Lh.refl _, [p], rfl⟩
theorem Good.ad {p : Addr} {o : HO} {ob : Ob} (g : Good K dk H0 F0 F σ H env st) (hp : H p = some o) (fp : F.out p) (h0 : H0 p = none) (n1 : p ≠ dk.1) (n2 : p ≠ dk.2)
    (no : ∀ (i : Nat) (ds : Own), env[i]? = some (.own ds) → σ[i]? ≠ some (some (.ref p))) (ho : ObAt K dk (F.ad p) H p ob) : Good K dk H0 F0 (F.ad p) σ H env (st.ad ob) := by
  have le : Le F (F.ad p) := Le.ad
  have w := g.wd
  refine ⟨⟨w.sub, w.d1, w.d2, ⟨w.f1.1, fun z => ?_⟩, ⟨w.f2.1, fun z => ?_⟩, w.ne, ?_, ?_, fun n a u h1 h2 => ?_⟩, ⟨g.ext.h, g.ext.f.trans le, g.ext.n, g.ext.m, fun a ha => ?_, g.ext.k⟩, g.len, fun i s e => ?_, g.dis⟩
  · rcases List.mem_append.mp z with z | z
    · exact w.f1.2 z
    · exact n1 (List.mem_singleton.mp z).symm
  · rcases List.mem_append.mp z with z | z
    · exact w.f2.2 z
    · exact n2 (List.mem_singleton.mp z).symm
  · simp [Fz.ad, S.ad, w.ml]
  · show (F.mu ++ [p]).Nodup
    rw [List.nodup_append]
    refine ⟨w.nd, by simp, fun a ha b hb z => fp.2 ?_⟩
    rw [List.mem_singleton.mp hb] at z
    exact z ▸ ha
  · have h1' : (F.mu ++ [p])[n]? = some a := h1
    have h2' : (st.ob ++ [ob])[n]? = some u := h2
    by_cases hl : n < F.mu.length
    · rw [List.getElem?_append_left hl] at h1'
      rw [List.getElem?_append_left (by rw [← w.ml]; exact hl)] at h2'
      obtain ⟨q1, q2⟩ := w.ob n a u h1' h2'
      exact ⟨q1, q2.keep (fun _ e => e) le⟩
    · have hn : n = F.mu.length := by
        have := mu_lt h1
        simp [Fz.ad] at this
        omega
      subst hn
      rw [List.getElem?_append_right (Nat.le_refl _), Nat.sub_self] at h1'
      rw [w.ml, List.getElem?_append_right (Nat.le_refl _), Nat.sub_self] at h2'
      cases h1'; cases h2'
      exact ⟨fp.1, ho⟩
  · have ha' : a ∈ F.mu ++ [p] := ha
    rcases List.mem_append.mp ha' with z | z
    · exact g.ext.u a z
    · rw [List.mem_singleton.mp z]; exact .inr h0
  · have q := g.sl i s e
    cases s with
    | un => trivial
    | val d => obtain ⟨v, h1, h2⟩ := q; exact ⟨v, h1, h2.mono le⟩
    | cap o =>
      cases o with
      | none => exact ⟨q.1, fun c y hc => le.h _ _ (q.2 c y hc)⟩
      | some ds => exact Rps.mono le q
    | own ds =>
      obtain ⟨r, vs, h1, h2, h3, h4, h5, h6, h7⟩ := q
      have nr : r ≠ p := fun z => no i ds e (by rw [← z]; exact join_eq h1)
      refine ⟨r, vs, h1, h2, ⟨h3.1, fun z => ?_⟩, h4, h5, h6, h7.mono le⟩
      rcases List.mem_append.mp z with z | z
      · exact h3.2 z
      · exact nr (List.mem_singleton.mp z)
theorem Ext.ad {p : Addr} (x : Ext dk F H F' H') (hp : H p = none) : Ext dk F H (F'.ad p) H' :=
  ⟨x.h, x.f.trans Le.ad, x.n, x.m, fun a ha => by
    have ha' : a ∈ F'.mu ++ [p] := ha
    rcases List.mem_append.mp ha' with z | z
    · exact x.u a z
    · rw [List.mem_singleton.mp z]; exact .inr hp, x.k⟩
theorem ad_at (w : Wd K dk F H st) (p : Addr) : (F.ad p).mu[st.ob.length]? = some p := by
  show (F.mu ++ [p])[st.ob.length]? = some p
  rw [← w.ml, List.getElem?_append_right (Nat.le_refl _), Nat.sub_self]; rfl
/-- a new list, a new dict for the store -/
noncomputable def stoL (f : MA) : ME := fun env st => (f env st).map fun p => (.ref p.2.ob.length, p.2.ad (.lst p.1))
theorem ImF.sto {te : TE} {f : MA} (h : ImF K te f) : Im K te (stoL f) := fun dk H0 F0 F σ H env st d st' g e Q q => by
  obtain ⟨⟨ds, s1⟩, h1, h2⟩ := mpd e
  cases h2
  refine h dk H0 F0 F σ H env st ds s1 g h1 Q fun p vs F' H' x g' hp fp hl r => ?_
  have nd := g.nedk hp
  exact q (.ref p) _ H' (x.ad hp) (g'.ad hl fp (g.fresh0 hp) nd.1 nd.2 (g.noown hp) (.lst hl (r.mono Le.ad))) (.ref (ad_at g'.wd p))
noncomputable def stoK (f : MK) : ME := fun env st => (f env st).map fun p => (.ref p.2.ob.length, p.2.ad (.dic false p.1.1 p.1.2))
theorem ImK.sto {te : TE} {f : MK} (h : ImK K te f) : Im K te (stoK f) := fun dk H0 F0 F σ H env st d st' g e Q q => by
  obtain ⟨⟨⟨ks, ds⟩, s1⟩, h1, h2⟩ := mpd e
  cases h2
  refine h dk H0 F0 F σ H env st _ s1 g h1 Q fun p vs F' H' x g' hp fp hl hl2 r => ?_
  have nd := g.nedk hp
  exact q (.ref p) _ H' (x.ad hp) (g'.ad hl fp (g.fresh0 hp) nd.1 nd.2 (g.noown hp) (.dic hl hl2 (r.mono Le.ad))) (.ref (ad_at g'.wd p))
noncomputable def refOf : D → Option Nat
  | .ref n => some n
  | _ => none
theorem refOf_eq {d : D} {n : Nat} (h : refOf d = some n) : d = .ref n := by
  cases d <;> first | (cases h; rfl) | cases h
noncomputable def lstAt (st : S) (n : Nat) : Option (List D) := match st.ob[n]? with
  | some (.lst ds) => some ds
  | _ => none
theorem lstAt_eq {n : Nat} {ds : List D} (h : lstAt st n = some ds) : st.ob[n]? = some (.lst ds) := by
  unfold lstAt at h
  split at h
  · rename_i e; cases h; exact e
  · cases h
noncomputable def dicAt (st : S) (n : Nat) : Option (List Key × List D) := match st.ob[n]? with
  | some (.dic false ks ds) => some (ks, ds)
  | _ => none
theorem Wd.lstAt {n : Nat} {a : Addr} {ds : List D} (w : Wd K dk F H st) (hn : F.mu[n]? = some a) (h : lstAt st n = some ds) : ∃ vs, H a = some (.lst vs) ∧ Rps K dk F vs ds := by
  obtain ⟨_, q⟩ := w.ob n a _ hn (lstAt_eq h)
  cases q with
  | lst h r => exact ⟨_, h, r⟩
theorem Rp.refn {v : V} {n : Nat} (r : Rp K dk F v (.ref n)) : ∃ a, v = .ref a ∧ F.mu[n]? = some a := by
  cases r with
  | ref h => exact ⟨_, rfl, h⟩
noncomputable def sappM (fo f : ME) : MS := fun env st => (fo env st).bind fun o => (refOf o.1).bind fun n => (lstAt o.2 n).bind fun _ => (f env o.2).bind fun p => (lstAt p.2 n).bind fun ds => if ds.length < sizeLine then some (.nx env, p.2.put n (.lst (ds ++ [p.1]))) else none
theorem is_sapp {to te : TE} {fo f : ME} (ho : Im K to fo) (h : Im K te f) : ImS K (tDrop (tBM K "list" rAppend to (tCons te tNil))) (sappM fo f) := fun dk H0 F0 F σ H env st fl st' g e E hd => by
  obtain ⟨⟨x, s1⟩, h1, e⟩ := bnd e
  obtain ⟨n, h2, e⟩ := bnd e
  obtain ⟨_, h0, e⟩ := bnd e
  obtain ⟨⟨d, s2⟩, h3, e⟩ := bnd e
  obtain ⟨ds, h4, e⟩ := bnd e
  split at e
  · rename_i hz
    cases e
    refine ho dk H0 F0 F σ H env st x s1 g h1 _ fun v F1 H1 x1 g1 r1 => ?_
    have hx : x = .ref n := refOf_eq h2
    subst hx
    obtain ⟨a, rfl, ha⟩ := r1.refn
    obtain ⟨vs0, hv0, _⟩ := g1.wd.lstAt ha h0
    refine ⟨.inl ⟨rfl, vs0, SqL.of hv0⟩, ?_⟩
    refine h dk H0 F0 F1 σ H1 env s1 d s2 g1 h3 _ fun u F2 H2 x2 g2 r2 => ?_
    have ha2 := x2.f.at ha
    obtain ⟨vs, hv, rv⟩ := g2.wd.lstAt ha2 h4
    refine ⟨a, vs, u, rfl, rfl, hv, by rw [rv.length]; exact hz, ?_⟩
    exact hd F2 σ _ (x1.f.trans x2.f) (g2.put ha2 hv (by rintro ⟨_, _, z⟩; cases z) (.lst upd_same (rv.append (Rps.one r2))))
  · cases e
noncomputable def sputM (fo fk fv : ME) : MS := fun env st => (fv env st).bind fun p => (fo env p.2).bind fun o => (refOf o.1).bind fun n => (fk env o.2).bind fun q => (keyOf q.1).bind fun k => (dicAt q.2 n).bind fun z => if z.2.length < sizeLine then some (.nx env, q.2.put n (.dic false (putKs z.1 k) (putVs z.1 z.2 k p.1))) else none
end
end MD
set_option Elab.async false
set_option linter.all false
set_option maxRecDepth 100000
set_option maxHeartbeats 1000000
namespace MD
open PySem L2
variable {ww : WW}
section
variable {K : Fg} {dk : Dk} {F F' F0 : Fz} {H H' H0 : Hp} {σ σ' : L2.St} {env env' : Sg} {st st' st'' : S}
noncomputable def dcL (t : MG) (c : MT) (fk fv : ME) (env : Sg) : List D → List Key × List D → S → Option ((List Key × List D) × S)
  | [], a, st => some (a, st)
  | d :: ds, a, st => (t d env).bind fun e => (c e st).bind fun p => if p.1 then (fk e p.2).bind fun x => (keyOf x.1).bind fun k => (fv e x.2).bind fun y => dcL t c fk fv env ds (putKs a.1 k, putVs a.1 a.2 k y.1) y.2 else dcL t c fk fv env ds a p.2
noncomputable def dcM (it : MI) (t : MG) (c : MT) (fk fv : ME) (vs : List Nat) : MK := fun env st => (it env st).bind fun p => if p.1.length ≤ sizeLine then dcL t c fk fv (wipeE env vs) p.1 ([], []) p.2 else none
noncomputable def lck (st : S) (n : Nat) : S := match st.ob[n]? with
  | some (.dic _ ks ds) => st.put n (.dic true ks ds)
  | _ => st
end
end MD
set_option Elab.async false
set_option linter.all false
set_option maxRecDepth 100000
set_option maxHeartbeats 4000000
namespace MD
open PySem PySem.Spec PyProof.Rows L2
variable {ww : WW}
section
variable {K : Fg} {dk : Dk} {F F' F0 : Fz} {H H' H0 : Hp} {σ σ' : L2.St} {env env' : Sg} {st st' st'' : S}
noncomputable def mulA : D → D → Option D
  | .tup ds, .int k => if ds.length ≤ 1000 ∧ -1000 ≤ k ∧ k ≤ 1000 then some (.tup (List.replicate k.toNat ds).flatten) else none
  | .lst ds, .int k => if ds.length ≤ 1000 ∧ -1000 ≤ k ∧ k ≤ 1000 then some (.lst (List.replicate k.toNat ds).flatten) else none
  | d, e => mulM d e
noncomputable def listD : List D → Option (List D)
  | [.lst ds] => some ds
  | [.tup ds] => some ds
  | [.dic ks _] => some (ks.map keyD)
  | _ => none
noncomputable def listM (a : MA) : MA := fun env st => (a env st).bind fun p => (listD (p.1.map (dr p.2))).map fun z => (z, p.2)
noncomputable def tTy (T : String) : TE := fun _ H Q => Q (.ty T) H
theorem pe_tyName {X : Cx} {x : Str} {T : String} {pos : Pos} (hg : Gl X x) (hm : X.mg x = none) (hv : bootBuiltins x = some (.type T)) (hn : x ≠ "__name__" := by decide) (hdb : (x == ("__debug__" : Str)) = false := by decide) : PE X (.Name x pos) (tTy T) :=
  ⟨fun pins s σ H Q I h => ld_blt I hg hm hv ⟨.ty T, H, I, rfl, h⟩ hn hdb⟩
noncomputable def tyD : D → Option String
  | .non => some "NoneType"
  | .bl _ => some "bool"
  | .int _ => some "int"
  | .str _ => some "str"
  | .lst _ => some "list"
  | .tup _ => some "tuple"
  | .dic _ _ => some "dict"
  | _ => none
noncomputable def isiM (T : String) (f : ME) : ME := fun env st => (f env st).bind fun p => (tyD (dr p.2 p.1)).bind fun t => (kitB t T).map fun b => (.bl b, p.2)
theorem sqT_ty {a : Addr} {vs : List V} (h : SqT K H a vs) : TyX K H (.ref a) (.type "tuple") := by
  rcases h with h | h
  · rcases h with h | ⟨o, h⟩
    · exact .base (.tup h)
    · exact .fTuple h
  · obtain ⟨o, its, n, h1, h2, _⟩ := h
    exact .kTuple h1 h2
theorem tyX_of {v : V} {d : D} {t : String} (s : Sb F H) (r : Rw K dk F H v d) (h : tyD d = some t) : TyX K H v (.type t) := by
  cases d with
  | non => cases h; rw [r.non]; exact .base .non
  | bl b => cases h; rw [r.bl]; exact .base (.bl b)
  | int i => cases h; rw [r.int]; exact .base (.int i)
  | str x => cases h; rw [r.str]; exact .base (.str x)
  | lst ds =>
    cases h
    obtain ⟨p, vs, rfl, h1, _⟩ := r.l s
    exact .base (.lst h1)
  | tup ds =>
    cases h
    obtain ⟨p, vs, rfl, h1, _⟩ := r.tup s
    exact sqT_ty h1
  | dic ks ds =>
    cases h
    obtain ⟨p, vs, rfl, h1, _⟩ := r.d s
    rcases h1 with h1 | ⟨o, h1⟩
    · exact .base (.dK h1)
    · exact .fDict h1
  | _ => cases h
theorem im_isi {te : TE} {f : ME} (T : String) (h : ImW K te f) : Im K (tCB (rIsi K) (tCons te (tCons (tTy T) tNil))) (isiM T f) := fun dk H0 F0 F σ H env st d st' g e Q q => by
  obtain ⟨⟨x, s1⟩, e1, e⟩ := bnd e
  obtain ⟨t, e2, e⟩ := bnd e
  obtain ⟨b, e3, e⟩ := mpd e
  cases e
  refine h dk H0 F0 F σ H env st x _ g e1 _ fun v F1 H1 x1 g1 r1 => ?_
  exact ⟨v, .ty T, .type t, .type T, b, rfl, .ty T, tyX_of g1.wd.sub (r1.dr g1.wd) e2, kit_ty e3, q (.bl b) F1 H1 x1 g1 (.bl b)⟩
theorem Rps.dropLast {vs : List V} {ds : List D} (r : Rps K dk F vs ds) : Rps K dk F vs.dropLast ds.dropLast := by
  rw [List.dropLast_eq_take, List.dropLast_eq_take, r.length]
  exact r.take _
noncomputable def spopM (fo : ME) : ME := fun env st => (fo env st).bind fun o => (refOf o.1).bind fun n => (lstAt o.2 n).bind fun ds => (ds[ds.length - 1]?).map fun d => (d, o.2.put n (.lst ds.dropLast))
theorem im_spop {to : TE} {fo : ME} (ho : Im K to fo) : Im K (tBM0 K "list" rPop to) (spopM fo) := fun dk H0 F0 F σ H env st d st' g e Q q => by
  obtain ⟨⟨x, s1⟩, h1, e⟩ := bnd e
  obtain ⟨n, h2, e⟩ := bnd e
  obtain ⟨ds, h3, e⟩ := bnd e
  obtain ⟨d', h4, e⟩ := mpd e
  cases e
  refine ho dk H0 F0 F σ H env st x s1 g h1 _ fun v F1 H1 x1 g1 r1 => ?_
  have hx : x = .ref n := refOf_eq h2
  subst hx
  obtain ⟨a, rfl, ha⟩ := r1.refn
  obtain ⟨vs, hv, rv⟩ := g1.wd.lstAt ha h3
  obtain ⟨u, k1, k2⟩ := rv.get h4
  refine ⟨.inl ⟨rfl, vs, SqL.of hv⟩, a, vs, u, rfl, rfl, hv, by rw [rv.length]; exact k1, ?_⟩
  have nf : ¬ Fro (.lst vs) := by rintro ⟨_, _, z⟩; cases z
  have nf' : ¬ Fro (.lst vs.dropLast) := by rintro ⟨_, _, z⟩; cases z
  exact q u F1 _ (x1.put ha hv nf nf') (g1.put ha hv nf (.lst upd_same rv.dropLast) nf') k2
end
end MD
set_option Elab.async false
set_option linter.all false
set_option maxRecDepth 100000
set_option maxHeartbeats 1000000
namespace MD
open PySem L2
variable {ww : WW}
/-- where a thing is so -/
noncomputable def cif {α : Type} (p : Prop) (o : Option α) : Option α := @ite _ p (Classical.propDecidable p) o none
theorem cif_eq {α : Type} (p : Prop) [d : Decidable p] (o : Option α) : (if p then o else none) = cif p o := by
  unfold cif
  by_cases h : p
  · rw [if_pos h, if_pos h]
  · rw [if_neg h, if_neg h]
theorem cif_of {α : Type} {p : Prop} {o : Option α} (h : p) : cif p o = o := if_pos h
end MD
set_option Elab.async false
set_option linter.all false
set_option maxRecDepth 100000
set_option maxHeartbeats 1000000
namespace MD
open PySem L2
variable {ww : WW}
noncomputable abbrev MX := Sg → S → Option (Sl × S)
/-- what an argument gives, as it stands at F, H -/
noncomputable def XOk (K : Fg) (dk : Dk) (F : Fz) (H H0 : Hp) (v : V) : Sl → Prop
  | .un => False
  | .cap _ => False
  | .val d => Rp K dk F v d
  | .own w => ∃ p vs, v = .ref p ∧ w.1.At H p vs ∧ F.out p ∧ H0 p = none ∧ p ≠ dk.1 ∧ p ≠ dk.2 ∧ Rps K dk F vs w.2
noncomputable def ImX [WW] (K : Fg) (te : TE) (f : MX) : Prop := ∀ (dk : Dk) (H0 : Hp) (F0 F : Fz) (σ : L2.St) (H : Hp) (env : Sg) (st : S) (s : Sl) (st' : S), Good K dk H0 F0 F σ H env st → f env st = some (s, st') →
  ∀ Q : VK, (∀ v F' H', Ext dk F H F' H' → Good K dk H0 F0 F' σ H' env st' → XOk K dk F' H' H v s → Q v H') → te σ H Q
noncomputable def xV (f : ME) : MX := fun env st => (f env st).map fun p => (.val p.1, p.2)
noncomputable def xL (f : MA) : MX := fun env st => (f env st).map fun p => (.own (.lst, p.1), p.2)
noncomputable def xK (f : MK) : MX := fun env st => (f env st).map fun p => (.own (.dic p.1.1, p.1.2), p.2)
section
variable {K : Fg} {dk : Dk} {F F' F0 : Fz} {H H' H0 : Hp} {σ σ' : L2.St} {env env' : Sg} {st st' st'' : S}
theorem Im.x {te : TE} {f : ME} (h : Im K te f) : ImX K te (xV f) := fun dk H0 F0 F σ H env st s st' g e Q q => by
  obtain ⟨⟨d, s1⟩, e1, e⟩ := mpd e
  cases e
  exact h dk H0 F0 F σ H env st d s1 g e1 Q fun v F1 H1 x1 g1 r1 => q v F1 H1 x1 g1 r1
theorem ImF.x {te : TE} {f : MA} (h : ImF K te f) : ImX K te (xL f) := fun dk H0 F0 F σ H env st s st' g e Q q => by
  obtain ⟨⟨ds, s1⟩, e1, e⟩ := mpd e
  cases e
  refine h dk H0 F0 F σ H env st ds s1 g e1 Q fun p vs F1 H1 x1 g1 hp fp hl r => ?_
  have nd := g.nedk hp
  exact q _ F1 H1 x1 g1 ⟨p, vs, rfl, hl, fp, hp, nd.1, nd.2, r⟩
theorem ImK.x {te : TE} {f : MK} (h : ImK K te f) : ImX K te (xK f) := fun dk H0 F0 F σ H env st s st' g e Q q => by
  obtain ⟨⟨⟨ks, ds⟩, s1⟩, e1, e⟩ := mpd e
  cases e
  refine h dk H0 F0 F σ H env st _ s1 g e1 Q fun p vs F1 H1 x1 g1 hp fp hl hl2 r => ?_
  have nd := g.nedk hp
  exact q _ F1 H1 x1 g1 ⟨p, vs, rfl, ⟨hl, hl2⟩, fp, hp, nd.1, nd.2, r⟩
theorem XOk.ext {v : V} {s : Sl} (h : XOk K dk F H H0 v s) (x : Ext dk F H F' H') : XOk K dk F' H' H0 v s := by
  cases s with
  | un => exact h
  | cap _ => exact h
  | val d => exact Rp.mono x.f h
  | own w =>
    obtain ⟨p, vs, h1, h2, h3, h4, h5, h6, h7⟩ := h
    exact ⟨p, vs, h1, h2.keep fun o e => x.h _ _ e h5 h6 (.inl h3.2), x.out h3 (by obtain ⟨o, ho⟩ := h2.some; exact nn ho), h4, h5, h6, h7.mono x.f⟩
/-- a slot gets it -/
theorem Good.setX {i : Nat} {v : V} {s : Sl} {Hb : Hp} (g : Good K dk H0 F0 F σ H env st) (h : XOk K dk F H Hb v s) (hb : ∀ p, Hb p = none → H0 p = none) (no : ∀ p, Hb p = none → ∀ (j : Nat) (es : Own), env[j]? = some (.own es) → σ[j]? ≠ some (some (.ref p))) :
    Good K dk H0 F0 F (σ.set i (some v)) H (env.set i s) st := by
  cases s with
  | un => exact h.elim
  | cap _ => exact h.elim
  | val d => exact g.set h
  | own w =>
    obtain ⟨p, vs, rfl, h2, h3, h4, h5, h6, h7⟩ := h
    exact g.setO h2 h3 (hb p h4) h5 h6 (no p h4) h7
noncomputable def par2 (i j : Nat) (fa fb : MX) : MS := fun env st => (fa env st).bind fun p => (fb env p.2).map fun q => (.nx ((env.set i p.1).set j q.1), q.2)
theorem is_par2 {ta tb : TE} {fa fb : MX} (i j : Nat) (ha : ImX K ta fa) (hb : ImX K tb fb) : ImS K (tPar i j (tCons ta (tCons tb tNil))) (par2 i j fa fb) := fun dk H0 F0 F σ H env st fl st' g e E hd => by
  obtain ⟨⟨s1, t1⟩, e1, e⟩ := bnd e
  obtain ⟨⟨s2, t2⟩, e2, e⟩ := mpd e
  cases e
  refine ha dk H0 F0 F σ H env st s1 t1 g e1 _ fun v F1 H1 x1 g1 k1 => ?_
  refine hb dk H0 F0 F1 σ H1 env t1 s2 t2 g1 e2 _ fun u F2 H2 x2 g2 k2 => ?_
  refine ⟨v, u, rfl, hd F2 _ H2 (x1.f.trans x2.f) ?_⟩
  have g3 : Good K dk H0 F0 F2 (σ.set i (some v)) H2 (env.set i s1) t2 := g2.setX (k1.ext x2) (fun p hp => g.fresh0 hp) fun p hp => g.noown hp
  refine g3.setX k2 (fun p hp => g1.fresh0 hp) fun p hp jj es hj z => ?_
  by_cases hi : i = jj
  · subst hi
    have hl : i < env.length := by
      by_cases hl : i < env.length
      · exact hl
      · rw [List.getElem?_eq_none (by rw [List.length_set]; omega)] at hj; cases hj
    rw [List.getElem?_set_self hl] at hj
    rw [List.getElem?_set_self (by rw [g.len]; exact hl)] at z
    cases hj
    cases z
    obtain ⟨p', vs, ep, h2, _⟩ := k1
    cases ep
    obtain ⟨o, ho⟩ := h2.some
    rw [hp] at ho; cases ho
  · rw [List.getElem?_set_ne hi] at hj z
    exact g1.noown hp jj es hj z
end
end MD
set_option Elab.async false
set_option linter.all false
set_option maxRecDepth 100000
set_option maxHeartbeats 1000000
namespace MD
open PySem PyProof.Rows L2
variable {ww : WW}
theorem units1 {n : Nat} (h : n + 64 < cLine) : n + 1 < cLine := by omega
section
variable {K : Fg} {dk : Dk} {F F' F0 : Fz} {H H' H0 : Hp} {σ σ' : L2.St} {env env' : Sg} {st st' st'' : S}
@[simp] theorem v_opF {g : D → D → Option (List D)} {fa fb : ME} {env : Sg} {st : S} : opF g fa fb env st = (fa env st).bind fun p => (fb env p.2).bind fun q => (g (dr q.2 p.1) (dr q.2 q.1)).map fun z => (z, q.2) := (rfl)
noncomputable def lsetM (i : Nat) (fk fv : ME) : MS := fun env st => match env[i]? with
  | some (.own (.lst, ds)) => (fv env st).bind fun p => (fk env p.2).bind fun q => (intOf q.1).bind fun k => (ixN ds.length k).map fun j => (.nx (env.set i (.own (.lst, ds.set j p.1))), q.2)
  | _ => none
@[simp] theorem v_lsetM {i : Nat} {fk fv : ME} {env : Sg} {st : S} : lsetM i fk fv env st = (match env[i]? with
  | some (.own (.lst, ds)) => (fv env st).bind fun p => (fk env p.2).bind fun q => (intOf q.1).bind fun k => (ixN ds.length k).map fun j => (.nx (env.set i (.own (.lst, ds.set j p.1))), q.2)
  | _ => none) := (rfl)
@[simp] theorem v_par2 {i j : Nat} {fa fb : MX} {env : Sg} {st : S} : par2 i j fa fb env st = (fa env st).bind fun p => (fb env p.2).map fun q => (.nx ((env.set i p.1).set j q.1), q.2) := (rfl)
@[simp] theorem v_xV {f : ME} {env : Sg} {st : S} : xV f env st = (f env st).map fun p => (Sl.val p.1, p.2) := (rfl)
@[simp] theorem v_xL {f : MA} {env : Sg} {st : S} : xL f env st = (f env st).map fun p => (Sl.own (.lst, p.1), p.2) := (rfl)
@[simp] theorem v_xK {f : MK} {env : Sg} {st : S} : xK f env st = (f env st).map fun p => (Sl.own (.dic p.1.1, p.1.2), p.2) := (rfl)
end
end MD
set_option Elab.async false
set_option linter.all false
set_option maxRecDepth 100000
set_option maxHeartbeats 1000000
namespace MD
open PySem L2
variable {ww : WW}
noncomputable def rLtD (K : Fg) : R2 := fun x y H Q => ∃ d e, Dp K H x d ∧ Dp K H y e ∧ PySem.W.alike d e = true ∧ d ≠ .none ∧ d.depth ≤ 60 ∧ Q (.bl (PySem.W.dataLt d e)) H
theorem op_ltD {X : Cx} (hu : X.A.units + 64 < cLine) : OpR X (compareOp .Lt) (rLtD X.K) := by
  intro pins s σ H x y v u Q I rx ry h
  obtain ⟨d, e, hd, he, hal, hn, hdp, q⟩ := h
  obtain ⟨as, r1⟩ := Dp.reads I _ _ _ hd rx
  obtain ⟨bs, r2⟩ := Dp.reads I _ _ _ he ry
  exact PySem.W.rcLt_alike d e X.A s v u as bs r1 r2 hal hn (by omega) X.prog X.w _ _ ⟨.bl _, H, I, rfl, q⟩
noncomputable def rLtA (K : Fg) : R2 := fun x y H Q => rI0 (fun i j => .bl (decide (i < j))) x y H Q ∨ rLtD K x y H Q
theorem op_ltA {X : Cx} (hu : X.A.units + 64 < cLine) : OpR X (compareOp .Lt) (rLtA X.K) := OpR.or op_lt (op_ltD hu)
noncomputable def ltA : D → D → Option D
  | .int i, .int j => some (.bl (decide (i < j)))
  | .tup a, .tup b => if (D.tup a).pl && (D.tup b).pl && PySem.W.alike (D.tup a).py (D.tup b).py && decide ((D.tup a).py.depth ≤ 60) then some (.bl (PySem.W.dataLt (D.tup a).py (D.tup b).py)) else none
  | _, _ => none
section
variable {K : Fg} {dk : Dk} {F F' F0 : Fz} {H H' H0 : Hp}
theorem ro_ltA : RO K (rLtA K) ltA := by
  intro dk F H st x y d e z w rx ry hz Q q
  unfold ltA at hz
  split at hz
  · exact .inl (ro_lt dk F H st x y _ _ z w rx ry hz Q q)
  · split at hz
    · rename_i ho
      cases hz
      simp only [Bool.and_eq_true, decide_eq_true_eq] at ho
      refine .inr ⟨_, _, rx.dp w.sub ho.1.1.1, ry.dp w.sub ho.1.1.2, ho.1.2, ?_, ho.2, q _ F H (Px.refl w.sub) (.bl _)⟩
      intro z
      rw [D.py] at z
      cases z
    · cases hz
  · cases hz
end
@[simp] theorem v_ltI {i j : Int} : ltA (.int i) (.int j) = some (.bl (decide (i < j))) := (rfl)
end MD
set_option Elab.async false
set_option linter.all false
namespace MD
open PySem PySem.Spec PyProof.Rows L2
end MD
set_option Elab.async false
set_option linter.all false
namespace MD
open PySem PySem.Spec PyProof.Rows L2
variable {ww : WW}
theorem pt_or {X : Cx} {e : Expr} {t t' : TE} (h : PT X e (tTest t)) (h' : PT X e (tTest t')) : PT X e (tTest fun σ H Q => t σ H Q ∨ t' σ H Q) :=
  ⟨fun pins s σ H Q I q => q.elim (h.run pins s σ H Q I) (h'.run pins s σ H Q I)⟩
theorem pt_in {X : Cx} {a b : Expr} {pos : Pos} {ta tb : TE} (hu : X.A.units + 1 < cLine) (ha : PE X a ta) (hb : PE X b tb) (hm : behindInMarks .In b = false := by rfl) : PT X (.Compare a [.In] [b] pos) (tTest (tIn X.K ta tb)) :=
  pt_or (pt_cmp (pc_din hu ha hb) hm) (pt_cmpR op_inA ha hb hm)
end MD
set_option Elab.async false
set_option linter.all false
set_option maxRecDepth 100000
set_option maxHeartbeats 1000000
namespace MD
open PySem PySem.Spec PyProof.Rows L2
variable {ww : WW}
mutual
inductive Rds (h : Heap) : Value → PyData → Prop
  | none : Rds h .none .none
  | bool (b : Bool) : Rds h (.bool b) (.bool b)
  | int (i : Int) (t : Tok) : Rds h (.int i t) (.int i)
  | str (x : Str) (t : Tok) : Rds h (.str x t) (.str x)
  | list {a : Addr} {o : Obj} {vs : List Value} {n : Nat} {xs : List PyData} : h.get? a = some o → o.cls = .type "list" → o.data = .seq vs.toArray n → RdsAll h vs xs → Rds h (.ref a) (.list xs)
  | tuple {a : Addr} {o : Obj} {vs : List Value} {n : Nat} {xs : List PyData} : h.get? a = some o → o.cls = .type "tuple" → o.data = .seq vs.toArray n → RdsAll h vs xs → Rds h (.ref a) (.tuple xs)
  | dict0 {a : Addr} {o : Obj} {n : Nat} : h.get? a = some o → o.cls = .type "dict" → o.data = .dict #[] n → (a == sysModules) = false → Rds h (.ref a) (.dict [])
inductive RdsAll (h : Heap) : List Value → List PyData → Prop
  | nil : RdsAll h [] []
  | cons {v : Value} {vs : List Value} {d : PyData} {ds : List PyData} : Rds h v d → RdsAll h vs ds → RdsAll h (v :: vs) (d :: ds)
end
mutual
theorem Rds.reads {h : Heap} : ∀ {v : Value} {d : PyData}, Rds h v d → ∃ as, Reads h v d as
  | _, _, .none => ⟨_, .none⟩
  | _, _, .bool b => ⟨_, .bool b⟩
  | _, _, .int i t => ⟨_, .int i t⟩
  | _, _, .str x t => ⟨_, .str x t⟩
  | _, _, .list h1 h2 h3 h4 => by
    obtain ⟨as, r⟩ := h4.reads
    exact ⟨_, .list h1 h2 h3 (by simpa using r)⟩
  | _, _, .tuple h1 h2 h3 h4 => by
    obtain ⟨as, r⟩ := h4.reads
    exact ⟨_, .tuple h1 h2 h3 (by simpa using r)⟩
  | _, _, .dict0 h1 h2 h3 _ => ⟨_, .dict (kvs := []) h1 h2 h3 .nil .nil⟩
theorem RdsAll.reads {h : Heap} : ∀ {vs : List Value} {ds : List PyData}, RdsAll h vs ds → ∃ as, ReadsAll h vs ds as
  | _, _, .nil => ⟨_, .nil⟩
  | _, _, .cons r rs => by
    obtain ⟨as, q⟩ := r.reads
    obtain ⟨bs, qs⟩ := rs.reads
    exact ⟨_, .cons q qs⟩
end
section
variable {prog : Program} {w : World} {h₀ : Heap}
mutual
theorem reprK_of {h₀ : Heap} : ∀ {v : Value} {d : PyData}, Rds h₀ v d → d.showable = true → d.shown.length ≤ sizeLine → ∃ bs, ReadAtMost h₀ d.depth bs ∧ ReprK prog w bs h₀ d.depth v d.shown
  | _, _, .none, _, _ => ⟨[], (fun _ h => nomatch h), by simp only [PyData.shown]; exact .of_is ReprIs.none _ _ _⟩
  | _, _, .bool b, _, _ => ⟨[], (fun _ h => nomatch h), by simp only [PyData.shown]; exact .of_is (ReprIs.bool b) _ _ _⟩
  | _, _, .int i t, hs, _ => ⟨[], (fun _ h => nomatch h), by simp only [PyData.shown]; exact .of_is (ReprIs.int t (by simpa [PyData.showable] using hs)) _ _ _⟩
  | _, _, .str x t, _, hz => ⟨[], (fun _ h => nomatch h), by simp only [PyData.shown]; exact .of_is (ReprIs.str x t (by simpa only [PyData.shown] using hz)) _ _ _⟩
  | _, _, .list (a := a) (vs := vs) (xs := xs) h1 h2 h3 h4, hs, hz => by
    have hz' : (listText (PyData.shownAll xs)).length ≤ sizeLine := by simpa only [PyData.shown] using hz
    obtain ⟨bs, hb, hk⟩ := reprAllK_of h4 (by simpa [PyData.showable] using hs) (fun t ht => Nat.le_trans (listText_mem_le ht) hz')
    obtain ⟨as, r⟩ := (Rds.list h1 h2 h3 h4).reads
    have hna : a ∉ bs := not_mem_of_deeper r (by simp only [PyData.depth]; omega) hb
    refine ⟨a :: bs, ReadAtMost.cons r (by simp only [PyData.depth]; omega) hb, ?_⟩
    simp only [PyData.depth, PyData.shown]
    cases h4 with
    | nil =>
      simp only [PyData.shownAll, listText_nil]
      exact ReprK.listEmpty h1 h2 h3
    | cons q qs => exact ReprK.list h1 h2 h3 hna (by simpa using hk.length_eq) (fun i y e => hk.item i y (by simpa using e))
  | _, _, .tuple (a := a) (xs := xs) h1 h2 h3 h4, hs, hz => by
    have hz' : (tupleText (PyData.shownAll xs)).length ≤ sizeLine := by simpa only [PyData.shown] using hz
    obtain ⟨bs, hb, hk⟩ := reprAllK_of h4 (by simpa [PyData.showable] using hs) (fun t ht => Nat.le_trans (tupleText_mem_le ht) hz')
    obtain ⟨as, r⟩ := (Rds.tuple h1 h2 h3 h4).reads
    have hna : a ∉ bs := not_mem_of_deeper r (by simp only [PyData.depth]; omega) hb
    refine ⟨a :: bs, ReadAtMost.cons r (by simp only [PyData.depth]; omega) hb, ?_⟩
    simp only [PyData.depth, PyData.shown]
    exact ReprK.tuple h1 h2 h3 hna (by simpa using hk)
  | _, _, .dict0 (a := a) h1 h2 h3 hsys, _, _ => by
    obtain ⟨as, r⟩ := (Rds.dict0 h1 h2 h3 hsys).reads
    refine ⟨a :: [], ReadAtMost.cons (n := 0) r (Nat.zero_le _) (fun _ h => nomatch h), ?_⟩
    have := ReprK.dict (prog := prog) (w := w) (as := []) (d := 0) (ps := []) h1 h2 h3 hsys (fun h => nomatch h) .nil
    simpa [PyData.depth, PyData.depthKv, PyData.shown, PyData.shownKv] using this
theorem reprAllK_of {h₀ : Heap} : ∀ {vs : List Value} {ds : List PyData}, RdsAll h₀ vs ds → PyData.showableAll ds = true → (∀ t ∈ PyData.shownAll ds, t.length ≤ sizeLine) →
    ∃ bs, ReadAtMost h₀ (PyData.depthAll ds) bs ∧ ReprAllK prog w bs h₀ (PyData.depthAll ds) vs (PyData.shownAll ds)
  | _, _, .nil, _, _ => ⟨[], (fun _ h => nomatch h), by simp only [PyData.shownAll]; exact .nil⟩
  | _, _, .cons (d := d) (ds := ds) r rs, hs, hz => by
    have hs' : d.showable = true ∧ PyData.showableAll ds = true := by simpa [PyData.showableAll] using hs
    obtain ⟨b1, hb1, k1⟩ := reprK_of r hs'.1 (hz _ (by simp only [PyData.shownAll]; exact List.mem_cons_self ..))
    obtain ⟨b2, hb2, k2⟩ := reprAllK_of rs hs'.2 (fun t ht => hz t (by simp only [PyData.shownAll]; exact List.mem_cons_of_mem _ ht))
    refine ⟨b1 ++ b2, ?_, ?_⟩
    · simp only [PyData.depthAll]
      exact (hb1.mono (Nat.le_max_left _ _)).append (hb2.mono (Nat.le_max_right _ _))
    · simp only [PyData.depthAll, PyData.shownAll]
      exact .cons ((k1.more fun b hb => List.mem_append_left _ hb).level_le (Nat.le_max_left _ _)) (k2.more_le (fun b hb => List.mem_append_right _ hb) (Nat.le_max_right _ _))
end
theorem showsBy_of {a : Addr} {d : PyData} (r : Rds h₀ (.ref a) d) (hs : d.showable = true) (hz : d.shown.length ≤ sizeLine) : ∃ T idr, ShowsBy prog w h₀ a d T idr := by
  cases r with
  | @list _ o vs n xs h1 h2 h3 h4 =>
    have hz' : (listText (PyData.shownAll xs)).length ≤ sizeLine := by simpa only [PyData.shown] using hz
    obtain ⟨bs, hb, hk⟩ := reprAllK_of (prog := prog) (w := w) h4 (by simpa [PyData.showable] using hs) (fun t ht => Nat.le_trans (listText_mem_le ht) hz')
    obtain ⟨as, r⟩ := (Rds.list h1 h2 h3 h4).reads
    have hna : a ∉ bs := not_mem_of_deeper r (by simp only [PyData.depth]; omega) hb
    refine ⟨"list", "list.__repr__", F.slot_list_repr.toG, F.slot_list_str, F.slot_list_format, fun s hk0 => ⟨o, hk0 _ _ h1, h2⟩, fun A E s Q hg hu hk0 hQ => ?_⟩
    simp only [PyData.depth] at hu
    simp only [PyData.shown] at hQ
    cases h4 with
    | nil =>
      simp only [PyData.shownAll, listText_nil] at hQ
      exact call_list_repr_empty ⟨o, hk0 _ _ h1, h2⟩ (hk0 _ _ h1) h3 (hQ s.heap _ _ fun _ _ e => e)
    | cons q qs => exact call_list_reprK h1 h2 h3 hna (by simpa using hk.length_eq) (fun i y e => hk.item i y (by simpa using e)) hg (fun b _ => Clear.nil b) hu hk0 hQ hz'
  | @tuple _ o vs n xs h1 h2 h3 h4 =>
    have hz' : (tupleText (PyData.shownAll xs)).length ≤ sizeLine := by simpa only [PyData.shown] using hz
    obtain ⟨bs, hb, hk⟩ := reprAllK_of (prog := prog) (w := w) h4 (by simpa [PyData.showable] using hs) (fun t ht => Nat.le_trans (tupleText_mem_le ht) hz')
    obtain ⟨as, r⟩ := (Rds.tuple h1 h2 h3 h4).reads
    have hna : a ∉ bs := not_mem_of_deeper r (by simp only [PyData.depth]; omega) hb
    refine ⟨"tuple", "tuple.__repr__", F.slot_tuple_repr, F.slot_tuple_str, F.slot_tuple_format, fun s hk0 => ⟨o, hk0 _ _ h1, h2⟩, fun A E s Q hg hu hk0 hQ => ?_⟩
    simp only [PyData.depth] at hu
    simp only [PyData.shown] at hQ
    exact call_tuple_reprK h1 h2 h3 hna (by simpa using hk) hg (fun b _ => Clear.nil b) hu hk0 hQ hz'
  | @dict0 _ o n h1 h2 h3 hsys =>
    refine ⟨"dict", "dict.__repr__", F.slot_dict_repr, F.slot_dict_str, F.slot_dict_format, fun s hk0 => ⟨o, hk0 _ _ h1, h2⟩, fun A E s Q hg hu hk0 hQ => ?_⟩
    simp only [PyData.depth, PyData.depthKv] at hu
    simp only [PyData.shown, PyData.shownKv] at hQ
    have hz' : (dictText []).length ≤ sizeLine := by simpa only [PyData.shown, PyData.shownKv] using hz
    exact call_dict_reprK (as := []) (d := 0) (ps := []) h1 h2 h3 hsys (fun h => nomatch h) .nil hg (fun b _ => Clear.nil b) hu hk0 hQ hz'
theorem repr_of_rds {a : Addr} {d : PyData} {A : Around} {E : Value → Shared → Prop} {s : Shared} {Q : Value → Shared → Prop} (r : Rds s.heap (.ref a) d) (hs : d.showable = true) (hg : A.guards = some []) (hu : A.units + (d.depth + 1) < cLine)
    (hQ : ∀ h' u tk, (∀ b o, s.heap.get? b = some o → h'.get? b = some o) → Q (.str d.shown u) { s with heap := h', toks := tk })
    (hz : d.shown.length ≤ sizeLine) : wpAny (model prog w) A (call (.builtin "repr") [.ref a]) Q E s := by
  obtain ⟨T, idr, S⟩ := showsBy_of (prog := prog) (w := w) r hs hz
  exact call_repr_slot (by omega) (S.typeIs s fun _ _ e => e) S.slotRepr (S.call A.in1 E s _ hg (by show A.units + 1 + d.depth < cLine; omega) (fun _ _ e => e) fun h' u tk hk => ⟨_, _, rfl, hQ h' u tk hk⟩)
end
mutual
inductive Dq (K : Fg) (H : Hp) : V → PyData → Prop
  | non : Dq K H .non .none
  | bl (b : Bool) : Dq K H (.bl b) (.bool b)
  | int (i : Int) : Dq K H (.int i) (.int i)
  | str (x : Str) : Dq K H (.str x) (.str x)
  | lst {a : Addr} {xs : List V} {ds : List PyData} : SqL K H a xs → DqAll K H xs ds → Dq K H (.ref a) (.list ds)
  | tup {a : Addr} {xs : List V} {ds : List PyData} : SqT K H a xs → DqAll K H xs ds → Dq K H (.ref a) (.tuple ds)
  | dic {a : Addr} : Rd H a (.dK []) → Dq K H (.ref a) (.dict [])
inductive DqAll (K : Fg) (H : Hp) : List V → List PyData → Prop
  | nil : DqAll K H [] []
  | cons {v : V} {vs : List V} {d : PyData} {ds : List PyData} : Dq K H v d → DqAll K H vs ds → DqAll K H (v :: vs) (d :: ds)
end
section
variable {X : Cx} {pins : List (Addr × Obj)} {σ : List (Option V)} {H : Hp} {s : Shared}
mutual
theorem Dq.rds (I : Inv X pins σ H s) : ∀ {v : V} {d : PyData} {u : Value}, Dq X.K H v d → RelV v u → Rds s.heap u d
  | _, _, _, .non, r => by cases r; exact .none
  | _, _, _, .bl b, r => by cases r; exact .bool b
  | _, _, _, .int i, r => by obtain ⟨t, rfl⟩ := r; exact .int i t
  | _, _, _, .str x, r => by obtain ⟨t, rfl⟩ := r; exact .str x t
  | _, _, _, .lst h1 h2, r => by
    cases r
    obtain ⟨its, rv, ⟨o, n, ho, hc, _, hd⟩, _⟩ := I.list h1
    exact .list ho hc hd (DqAll.rds I h2 rv)
  | _, _, _, .tup h1 h2, r => by
    cases r
    obtain ⟨its, rv, ⟨o, ho, hc, n, hd⟩, _⟩ := I.tuple h1
    exact .tuple ho hc hd (DqAll.rds I h2 rv)
  | _, _, _, .dic h, r => by
    cases r
    obtain ⟨_, hs, vs, kv, o, es, ep, ho, hx, hd, _, hp, _⟩ := dk_rd I.hok h
    cases kv
    have he : es = #[] := by
      have := hp.length
      apply Array.eq_empty_of_size_eq_zero
      simpa using this
    subst he
    exact .dict0 ho hx.1 hd hs
theorem DqAll.rds (I : Inv X pins σ H s) : ∀ {vs : List V} {ds : List PyData} {us : List Value}, DqAll X.K H vs ds → Vals vs us → RdsAll s.heap us ds
  | _, _, _, .nil, r => by cases r; exact .nil
  | _, _, _, .cons h1 h2, r => by
    cases r with
    | cons r1 r2 => exact .cons (Dq.rds I h1 r1) (DqAll.rds I h2 r2)
end
end
noncomputable def rReprQ (K : Fg) : List V → Hp → VK → Prop := fun xs H Q => ∃ x d, xs = [x] ∧ Dq K H x d ∧ d.showable = true ∧ d.depth ≤ 60 ∧ d.shown.length ≤ sizeLine ∧ Q (.str d.shown) H
theorem call_reprQ {X : Cx} (hg : X.A.guards = some []) (hu : X.A.units + 64 < cLine) : CallR X (.builtin "repr") (rReprQ X.K) := by
  intro pins s σ H xs us Q I rs h
  obtain ⟨x, d, rfl, hd, hs, hdp, hz, q⟩ := h
  obtain ⟨u, rfl, rx⟩ := vals1 rs
  have hr := Dq.rds I hd rx
  cases id hd with
  | non => cases rx; exact PySem.P.repr_of_none ⟨.str _, H, I.tok _, ⟨_, rfl⟩, q⟩
  | bl b => cases rx; exact PySem.P.repr_of_bool ⟨.str _, H, I.tok _, ⟨_, rfl⟩, q⟩
  | int i =>
    obtain ⟨t, rfl⟩ := rx
    exact PySem.P.repr_of_int (by simpa [PyData.showable] using hs) ⟨.str _, H, I.tok _, ⟨_, rfl⟩, q⟩
  | str y =>
    obtain ⟨t, rfl⟩ := rx
    exact PySem.P.repr_of_str ⟨.str _, H, I.tok _, ⟨_, rfl⟩, q⟩ hz
  | lst h1 h2 =>
    cases rx
    exact repr_of_rds hr hs hg (by omega) (fun h' u tk hk => ⟨.str _, H, I.kept hk, ⟨_, rfl⟩, q⟩) hz
  | tup h1 h2 =>
    cases rx
    exact repr_of_rds hr hs hg (by omega) (fun h' u tk hk => ⟨.str _, H, I.kept hk, ⟨_, rfl⟩, q⟩) hz
  | dic h1 =>
    cases rx
    exact repr_of_rds hr hs hg (by omega) (fun h' u tk hk => ⟨.str _, H, I.kept hk, ⟨_, rfl⟩, q⟩) hz
mutual
noncomputable def D.qy : D → PyData
  | .non => .none
  | .bl b => .bool b
  | .int i => .int i
  | .str s => .str s
  | .lst xs => .list (qyAll xs)
  | .tup xs => .tuple (qyAll xs)
  | .deck => .none
  | .dic _ _ => .dict []
  | .ref _ => .none
noncomputable def qyAll : List D → List PyData
  | [] => []
  | x :: xs => D.qy x :: qyAll xs
end
mutual
noncomputable def D.ql : D → Bool
  | .lst xs => qlAll xs
  | .tup xs => qlAll xs
  | .deck => false
  | .dic ks ds => ks.isEmpty && ds.isEmpty
  | .ref _ => false
  | .non => true
  | .bl _ => true
  | .int _ => true
  | .str _ => true
noncomputable def qlAll : List D → Bool
  | [] => true
  | x :: xs => D.ql x && qlAll xs
end
section
variable {K : Fg} {dk : Dk} {F : Fz} {H : Hp}
mutual
theorem Rp.dq (le : Sb F H) : ∀ {v : V} {d : D}, Rp K dk F v d → d.ql = true → Dq K H v d.qy
  | _, _, .non, _ => .non
  | _, _, .bl b, _ => .bl b
  | _, _, .int i, _ => .int i
  | _, _, .str x, _ => .str x
  | _, _, .lst h r, p => .lst (SqL.of (le.lst h)) (Rps.dq le r (by simpa [D.ql] using p))
  | _, _, .tup h r, p => .tup (le.sqT h) (Rps.dq le r (by simpa [D.ql] using p))
  | _, _, .deck, p => by simp [D.ql] at p
  | _, _, .dic (ks := ks) h hl r, p => by
    have p' : ks = [] := by
      simp [D.ql] at p
      exact p.1
    subst p'
    exact .dic (le.dK h)
  | _, _, .ref _, p => by simp [D.ql] at p
theorem Rps.dq (le : Sb F H) : ∀ {vs : List V} {ds : List D}, Rps K dk F vs ds → qlAll ds = true → DqAll K H vs (qyAll ds)
  | _, _, .nil, _ => .nil
  | _, _, .cons a b, p => by
    simp only [qlAll, Bool.and_eq_true] at p
    exact .cons (Rp.dq le a p.1) (Rps.dq le b p.2)
end
theorem Rw.dq (le : Sb F H) {v : V} {d : D} (r : Rw K dk F H v d) (p : d.ql = true) : Dq K H v d.qy := by
  cases r with
  | rp r => exact r.dq le p
  | lst h r => exact .lst (SqL.of h) (r.dq le (by simpa [D.ql] using p))
  | dic h hl r =>
    rename_i ks _ _
    have p' : ks = [] := by
      simp [D.ql] at p
      exact p.1
    subst p'
    exact .dic h
end
noncomputable def reprQ : List D → Option D
  | [d] => if d.ql && d.qy.showable && decide (d.qy.depth ≤ 60) && decide (d.qy.shown.length ≤ sizeLine) then some (.str d.qy.shown) else none
  | _ => none
theorem rc_reprQ {K : Fg} : RC K (rReprQ K) reprQ := by
  intro dk F H st vs ds z w rx hz Q q
  unfold reprQ at hz
  split at hz
  · split at hz
    · rename_i ho
      cases hz
      simp only [Bool.and_eq_true, decide_eq_true_eq] at ho
      obtain ⟨v, rfl, r⟩ := rx.one
      exact ⟨v, _, rfl, r.dq w.sub ho.1.1.1, ho.1.1.2, ho.1.2, ho.2, q _ F H (Px.refl w.sub) (.str _)⟩
    · cases hz
  · cases hz
end MD
set_option Elab.async false
set_option linter.all false
set_option maxRecDepth 100000
set_option maxHeartbeats 1000000
namespace MD
open PySem PySem.Spec PyProof.Rows L2
variable {ww : WW}
mutual
inductive Nk (K : Fg) (H : Hp) : NestedKey → V → Prop
  | non : Nk K H .none .non
  | bl (b : Bool) : Nk K H (.num (if b = true then 1 else 0)) (.bl b)
  | int (i : Int) : Nk K H (.num i) (.int i)
  | str (x : Str) : Nk K H (.text x) (.str x)
  | tup {a : Addr} {vs : List V} {ks : List NestedKey} : SqT K H a vs → Nks K H ks vs → Nk K H (.tup ks) (.ref a)
inductive Nks (K : Fg) (H : Hp) : List NestedKey → List V → Prop
  | nil : Nks K H [] []
  | cons {k : NestedKey} {v : V} {ks : List NestedKey} {vs : List V} : Nk K H k v → Nks K H ks vs → Nks K H (k :: ks) (v :: vs)
end
section
variable {X : Cx} {pins : List (Addr × Obj)} {σ : List (Option V)} {H : Hp} {s : Shared}
mutual
theorem Nk.is (I : Inv X pins σ H s) : ∀ {k : NestedKey} {v : V} {u : Value}, Nk X.K H k v → RelV v u → NestedIs s.heap k u
  | _, _, _, .non, r => by cases r; exact .none
  | _, _, _, .bl b, r => by cases r; exact .bool rfl
  | _, _, _, .int i, r => by obtain ⟨t, rfl⟩ := r; exact .int i t
  | _, _, _, .str x, r => by obtain ⟨t, rfl⟩ := r; exact .text x t
  | _, _, _, .tup h1 h2, r => by
    cases r
    obtain ⟨its, rv, ⟨o, ho, hc, n, hd⟩, _⟩ := I.tuple h1
    exact .tup ho hc hd (by simpa using Nks.are I h2 rv)
theorem Nks.are (I : Inv X pins σ H s) : ∀ {ks : List NestedKey} {vs : List V} {us : List Value}, Nks X.K H ks vs → Vals vs us → NestedAll s.heap ks us
  | _, _, _, .nil, r => by cases r; exact .nil
  | _, _, _, .cons h1 h2, r => by
    cases r with
    | cons r1 r2 => exact .cons (Nk.is I h1 r1) (Nks.are I h2 r2)
end
end
noncomputable abbrev Zs := List (NestedKey × Addr × Value)
structure NkD [WW] (K : Fg) (H : Hp) (c : Addr) (zs : Zs) : Prop where
  h : H c = some (.ext (NkAt c zs))
  k : ∀ z ∈ zs, Nk K H z.1 (.ref z.2.1) ∧ z.1.depth ≤ 8
  n : (zs.map fun z => z.1).Nodup
section
variable {X : Cx} {pins : List (Addr × Obj)} {σ : List (Option V)} {H : Hp} {s : Shared}
theorem NkD.dict {c : Addr} {zs : Zs} (hw : X.w = WW.w) (d : NkD X.K H c zs) (I : Inv X pins σ H s) : s.heap.DictOfH (nestedKind X.prog X.w) c zs ∧ (c == sysModules) = false ∧ zs.length ≤ sizeLine := by
  obtain ⟨⟨h1, h2, o, es, ep, ho, hx, hd, he⟩, _, _⟩ := I.hok c _ d.h
  exact ⟨⟨o, es, ep, ho, hx, hd, by rw [hw]; exact he, fun z hz => ⟨Nk.is I (d.k z hz).1 rfl, (d.k z hz).2⟩, d.n⟩, h1, h2⟩
end
end MD
set_option Elab.async false
set_option linter.all false
set_option maxRecDepth 100000
set_option maxHeartbeats 1000000
namespace MD
open PySem PySem.Spec PyProof.Rows L2
variable {ww : WW}
section
variable {K : Fg}
noncomputable def three (i j l : Nat) (env : Sg) : List D → Option Sg
  | [a, b, c] => some (((env.set i (.val a)).set j (.val b)).set l (.val c))
  | _ => none
end
end MD
set_option Elab.async false
set_option linter.all false
set_option maxRecDepth 100000
set_option maxHeartbeats 1000000
namespace MD
open PySem PySem.Spec PyProof.Rows L2
variable {ww : WW}
noncomputable def lookF : List Str → List D → Str → Option D
  | f :: fs, d :: ds, g => if f = g then some d else lookF fs ds g
  | _, _, _ => none
noncomputable def putFN : List Str → Str → List Str
  | [], g => [g]
  | f :: fs, g => if f = g then f :: fs else f :: putFN fs g
noncomputable def putFV {α : Type} : List Str → List α → Str → α → List α
  | [], _, _, v => [v]
  | f :: fs, x :: xs, g, v => if f = g then v :: xs else x :: putFV fs xs g v
  | _ :: _, [], _, v => [v]
theorem putF_zip : ∀ (fs : List Str) (vs : List V) (g : Str) (v : V), fs.length = vs.length → putF g v (fs.zip vs) = (putFN fs g).zip (putFV fs vs g v) ∧ (putFN fs g).length = (putFV fs vs g v).length
  | [], [], g, v, _ => ⟨rfl, rfl⟩
  | [], _ :: _, _, _, h => by cases h
  | _ :: _, [], _, _, h => by cases h
  | f :: fs, x :: vs, g, v, h => by
    obtain ⟨i1, i2⟩ := putF_zip fs vs g v (by simpa using h)
    rw [List.zip_cons_cons]
    show (if f = g then (f, v) :: fs.zip vs else (f, x) :: putF g v (fs.zip vs)) = _ ∧ _
    unfold putFN putFV
    by_cases e : f = g
    · rw [if_pos e, if_pos e, if_pos e]
      exact ⟨rfl, by simpa using h⟩
    · rw [if_neg e, if_neg e, if_neg e, i1]
      exact ⟨rfl, by simpa using i2⟩
section
variable {K : Fg} {dk : Dk} {F : Fz} {H : Hp}
theorem putFV_rps {v : V} {d : D} (r : Rp K dk F v d) (g : Str) : ∀ {fs : List Str} {vs : List V} {ds : List D}, fs.length = vs.length → Rps K dk F vs ds → Rps K dk F (putFV fs vs g v) (putFV fs ds g d)
  | [], _, _, _, _ => .cons r .nil
  | f :: fs, _, _, h, .nil => by cases h
  | f :: fs, _, _, h, .cons a b => by
    unfold putFV
    by_cases e : f = g
    · rw [if_pos e, if_pos e]; exact .cons r b
    · rw [if_neg e, if_neg e]; exact .cons a (putFV_rps r g (by simpa using h) b)
theorem lookF_rp {g : Str} {d : D} : ∀ {fs : List Str} {vs : List V} {ds : List D}, fs.length = vs.length → Rps K dk F vs ds → lookF fs ds g = some d → ∃ v, (fs.zip vs).lookup g = some v ∧ Rp K dk F v d
  | [], _, _, _, _, e => by cases e
  | f :: fs, _, _, h, .nil, e => by cases h
  | f :: fs, v :: vs, _, h, .cons a b, e => by
    unfold lookF at e
    rw [List.zip_cons_cons]
    by_cases q : f = g
    · rw [if_pos q] at e
      cases e
      have : (g == f) = true := beq_iff_eq.mpr q.symm
      exact ⟨v, by simp [List.lookup, this], a⟩
    · rw [if_neg q] at e
      obtain ⟨u, h1, h2⟩ := lookF_rp (by simpa using h) b e
      have : (g == f) = false := beq_eq_false_iff_ne.mpr fun z => q z.symm
      exact ⟨u, by simp [List.lookup, this, h1], h2⟩
theorem look_none {g : Str} : ∀ {fs : List Str} {vs : List V}, g ∉ fs → (fs.zip vs).lookup g = none
  | [], vs, _ => by simp
  | f :: fs, [], _ => by simp
  | f :: fs, v :: vs, h => by
    rw [List.mem_cons, not_or] at h
    rw [List.zip_cons_cons]
    have : (g == f) = false := beq_eq_false_iff_ne.mpr h.1
    simp [List.lookup, this, look_none h.2]
end
/-- what must be known of a class: its names, and that no class of it has a name of the fields -/
structure ClsOk (K : Fg) (c : Str) (fl : List Str) : Prop where
  cl : ∀ C, clsOf K c = some C → Cls K C
  no : ∀ C, clsOf K c = some C → ∀ f ∈ fl, NoAttr K C f
theorem cs1 {K : Fg} {c : Str} {fl : List Str} (h : ClsOk K c fl) : ∀ c' ∈ [c], ClsOk K c' fl := fun c' hc => by rw [List.mem_singleton.mp hc]; exact h
noncomputable def insAt (cs : List Str) (st : S) (n : Nat) : Option (Str × List Str × List D) := match st.ob[n]? with
  | some (.ins c fs xs) => if c ∈ cs then some (c, fs, xs) else none
  | _ => none
theorem insAt_eq {cs : List Str} {st : S} {n : Nat} {q : Str × List Str × List D} (h : insAt cs st n = some q) : st.ob[n]? = some (.ins q.1 q.2.1 q.2.2) ∧ q.1 ∈ cs := by
  unfold insAt at h
  split at h
  · split at h
    · rename_i e hc
      cases h
      exact ⟨e, hc⟩
    · cases h
  · cases h
section
variable {K : Fg}
theorem Wd.insAt {dk : Dk} {F : Fz} {H : Hp} {st : S} {cs : List Str} {n : Nat} {a : Addr} {q : Str × List Str × List D} (w : Wd K dk F H st) (hn : F.mu[n]? = some a) (h : MD.insAt cs st n = some q) :
    ∃ C dx vs, clsOf K q.1 = some C ∧ H a = some (.ins C dx (q.2.1.zip vs)) ∧ q.2.1.length = vs.length ∧ Rps K dk F vs q.2.2 := by
  obtain ⟨e, _⟩ := insAt_eq h
  obtain ⟨_, o⟩ := w.ob n a _ hn e
  cases o with
  | ins h1 h2 h3 h4 => exact ⟨_, _, _, h1, h2, h3, h4⟩
noncomputable def fldM (cs : List Str) (f : Str) (fo : ME) : ME := fun env st => (fo env st).bind fun p => (refOf p.1).bind fun n => (insAt cs p.2 n).bind fun z => (lookF z.2.1 z.2.2 f).map fun d => (d, p.2)
theorem im_fld {cs fl : List Str} {f : Str} {to : TE} {fo : ME} (hc : ∀ c ∈ cs, ClsOk K c fl) (hf : f ∈ fl) (ho : Im K to fo) : Im K (tFld K to f) (fldM cs f fo) := fun dk H0 F0 F σ H env st d st' g e Q q => by
  obtain ⟨⟨x, s1⟩, e1, e⟩ := bnd e
  obtain ⟨n, e2, e⟩ := bnd e
  obtain ⟨z, e3, e⟩ := bnd e
  obtain ⟨d', e4, e⟩ := mpd e
  cases e
  refine ho dk H0 F0 F σ H env st x s1 g e1 _ fun v F1 H1 x1 g1 r1 => ?_
  have hx : x = .ref n := refOf_eq e2
  subst hx
  obtain ⟨a, rfl, ha⟩ := r1.refn
  obtain ⟨C, dx, vs, h1, h2, h3, h4⟩ := g1.wd.insAt ha e3
  obtain ⟨v, h5, h6⟩ := lookF_rp h3 h4 e4
  have ok := hc _ (insAt_eq e3).2
  exact ⟨a, C, dx, _, v, rfl, h2, ok.cl C h1, ok.no C h1 f hf, h5, q v F1 H1 x1 g1 h6⟩
noncomputable def setM (cs : List Str) (f : Str) (fo fv : ME) : MS := fun env st => (fv env st).bind fun p => (fo env p.2).bind fun o => (refOf o.1).bind fun n => (insAt cs o.2 n).bind fun z => if z.2.1.length < 1000 then some (.nx env, o.2.put n (.ins z.1 (putFN z.2.1 f) (putFV z.2.1 z.2.2 f p.1))) else none
theorem is_setf {cs fl : List Str} {f : Str} {to tv : TE} {fo fv : ME} (hc : ∀ c ∈ cs, ClsOk K c fl) (hf : f ∈ fl) (ho : Im K to fo) (hv : Im K tv fv) : ImS K (sFld K to tv f) (setM cs f fo fv) := fun dk H0 F0 F σ H env st fl' st' g e E hd => by
  obtain ⟨⟨d, s1⟩, h1, e⟩ := bnd e
  obtain ⟨⟨x, s2⟩, h2, e⟩ := bnd e
  obtain ⟨n, h3, e⟩ := bnd e
  obtain ⟨z, h4, e⟩ := bnd e
  split at e
  · rename_i hz
    cases e
    refine hv dk H0 F0 F σ H env st d s1 g h1 _ fun v F1 H1 x1 g1 r1 => ?_
    refine ho dk H0 F0 F1 σ H1 env s1 x s2 g1 h2 _ fun u F2 H2 x2 g2 r2 => ?_
    have hx : x = .ref n := refOf_eq h3
    subst hx
    obtain ⟨a, rfl, ha⟩ := r2.refn
    obtain ⟨C, dx, vs, k1, k2, k3, k4⟩ := g2.wd.insAt ha h4
    have ok := hc _ (insAt_eq h4).2
    obtain ⟨p1, p2⟩ := putF_zip z.2.1 vs f v k3
    refine ⟨a, C, dx, _, rfl, k2, ok.cl C k1, ok.no C k1 f hf, ?_, ?_⟩
    · rw [List.length_zip, ← k3, Nat.min_self]; exact hz
    · refine hd F2 σ _ (x1.f.trans x2.f) (g2.put ha k2 (by rintro ⟨_, _, z⟩; cases z) ?_)
      exact .ins (dx := dx) k1 (by rw [upd_same, p1]) p2 (putFV_rps (r1.mono x2.f) f k3 k4)
  · cases e
noncomputable def methM (c m : Str) (mf : MF) (fo : ME) (a : MA) : ME := fun env st => (fo env st).bind fun p => (refOf p.1).bind fun n => (insAt [c] p.2 n).bind fun z => if m ∉ z.2.1 then (a env p.2).bind fun q => mf (p.1 :: q.1) q.2 else none
theorem im_meth {c m : Str} {C : Addr} {n : Nat} {mf : MF} {to : TE} {ta : TA} {fo : ME} {a : MA} {E : XK} (hC : clsOf K c = some C) (ho : Im K to fo) (ha : ImA K ta a) (hn : ∀ env st p, a env st = some p → p.1.length = n) : Im K (tMeth C m (spD K (n + 1) mf) [] E to ta) (methM c m mf fo a) := fun dk H0 F0 F σ H env st d st' g e Q q => by
  obtain ⟨⟨x, s1⟩, e1, e⟩ := bnd e
  obtain ⟨j, e2, e⟩ := bnd e
  obtain ⟨z, e3, e⟩ := bnd e
  split at e
  · rename_i hm
    obtain ⟨⟨ds, s2⟩, e4, e⟩ := bnd e
    refine ho dk H0 F0 F σ H env st x s1 g e1 _ fun v F1 H1 x1 g1 r1 => ?_
    have hx : x = .ref j := refOf_eq e2
    subst hx
    obtain ⟨b, rfl, hb⟩ := r1.refn
    obtain ⟨C', dx, vs, h1, h2, h3, h4⟩ := g1.wd.insAt hb e3
    have hz : z.1 = c := List.mem_singleton.mp (insAt_eq e3).2
    rw [hz, hC] at h1
    cases h1
    refine ⟨b, dx, _, rfl, h2, look_none hm, ?_⟩
    refine ha dk H0 F0 F1 σ H1 env s1 ds s2 g1 e4 _ fun us F2 H2 x2 g2 r2 => ?_
    rw [List.append_nil]
    exact ⟨by simpa using r2.length.trans (hn _ _ _ e4), dk, F2, .ref j :: ds, s2, d, st', g2.wd, .cons (r1.mono x2.f) r2, e, fun v F' H' x w r => q v F' H' ((x1.trans x2).trans x) (g2.step x w) r⟩
  · cases e
noncomputable def makeM (c : Str) (mf : MF) (a : MA) : ME := fun env st => (a env st).bind fun p => (mf (.ref p.2.ob.length :: p.1) (p.2.ad (.ins c [] []))).bind fun q => match q.1 with
  | .non => some (.ref p.2.ob.length, q.2)
  | _ => none
theorem im_make {c : Str} {C : Addr} {n : Nat} {mf : MF} {ta : TA} {a : MA} {E : XK} (hC : clsOf K c = some C) (ha : ImA K ta a) (hn : ∀ env st p, a env st = some p → p.1.length = n) : Im K (tMake C (spD K (n + 1) mf) [] E ta) (makeM c mf a) := fun dk H0 F0 F σ H env st d st' g e Q q => by
  obtain ⟨⟨ds, s1⟩, e1, e⟩ := bnd e
  obtain ⟨⟨y, s2⟩, e2, e⟩ := bnd e
  refine ha dk H0 F0 F σ H env st ds s1 g e1 _ fun vs F1 H1 x1 g1 r1 => ?_
  intro x dx hx hdx hne
  have px1 : Px F1 H1 F1 (upd H1 dx (.own x)) := Px.lay g1.wd.sub hdx
  have hx1 : upd H1 dx (.own x) x = none := by rw [upd_ne hne.symm]; exact hx
  have g2 := g1.px px1
  have px2 : Px F1 (upd H1 dx (.own x)) F1 (upd (upd H1 dx (.own x)) x (.ins C dx [])) := Px.lay g2.wd.sub hx1
  have nd := g1.nedk hx
  have fx := g1.wd.out hx
  have g3 := (g2.px px2).ad (p := x) (ob := .ins c [] []) upd_same fx (g1.fresh0 hx) nd.1 nd.2 (g1.noown hx) (.ins (dx := dx) (vs := []) hC upd_same rfl .nil)
  have hat := ad_at (g2.px px2).wd x
  rw [List.append_nil]
  have hl : (V.ref x :: vs).length = n + 1 := by simpa using r1.length.trans (hn _ _ _ e1)
  have xx : Ext dk F1 H1 (F1.ad x) (upd (upd H1 dx (.own x)) x (.ins C dx [])) := ((px1.ext.trans px2.ext)).ad hx
  refine ⟨hl, dk, F1.ad x, .ref s1.ob.length :: ds, s1.ad (.ins c [] []), y, s2, g3.wd, .cons (.ref hat) (r1.mono Le.ad), e2, fun v F' H' x2 w r => ?_⟩
  cases y with
  | non =>
    cases e
    cases r
    exact ⟨rfl, q (.ref x) F' H' (x1.trans (xx.trans x2)) (g3.step x2 w) (.ref (x2.f.at hat))⟩
  | _ => cases e
end
theorem guards_make {A : Around} (C : Addr) (us : List Value) (h : A.guards = some []) : (A.under (.builtin "type.__call__" ⟨.ref C :: us, []⟩)).guards = some [] := by
  have h1 : (A.under (.builtin "type.__call__" ⟨.ref C :: us, []⟩)).guards = pushGuards (Code.guards (.builtin "type.__call__" ⟨.ref C :: us, []⟩)) A.guards := rfl
  have h2 : Code.guards (.builtin "type.__call__" ⟨.ref C :: us, []⟩) = [] := by
    unfold Code.guards
    rw [if_neg]
    have : Code.isGuard (.builtin "type.__call__" ⟨.ref C :: us, []⟩) = false := by
      first | rfl | decide +kernel | simp [Code.isGuard, guardIds]
    rw [this]
    exact Bool.false_ne_true
  rw [h1, h2, h]
  rfl
section
variable {X : Cx} {k : Nat} {f C : Addr} {fd : FuncData} {ps : List Str} {sp : Sp} {x m : Str} {p pos apos : Pos} {e o : Expr} {es : List Expr} {ta : TE} {t : TA}
theorem pe_methG {pl : Sem Bool} (he : PE X o ta) (c : Cls X.K C) (hm : Meth X.K C m f) (F : FnG X.prog X.w X.K X.mg X.base k f fd ps sp) (hr : Room k X.A) (gd : X.A.guards = some []) (hb : Binds X.K fd ps []) (ha : PA X (e :: es) t)
    (hst : starEach (e :: es) X.env = (false, eval e X.env) :: starEach es X.env := by rfl) (hpl : (backTo pos (starEach es X.env)).any (·.1) = false := by rfl)
    (ht : eval (.Call (.Attribute o m apos) (e :: es) [] pos) X.env = (do
      let ov ← eval o X.env
      standAt apos.atName
      let (f, first) ← holding [ov] (getMethod ov m pl)
      callWith pos f first (backTo pos (starEach (e :: es) X.env)) (backToKw pos (keywordEach [] X.env))) := by rfl) :
    PE X (.Call (.Attribute o m apos) (e :: es) [] pos) (tMeth C m sp [] E0 ta t) := by
  refine ⟨fun pins s σ H Q I h => ?_⟩
  refine PySem.W.methodCall_KW (pl := pl) (thn (he.run pins s σ H _ I h) fun u s1 ⟨x, H1, I1, rx, a, dx, fs, ex, ea, l, q⟩ => ?_) ht
  subst ex
  obtain rfl : u = Value.ref a := rx
  refine getmeth_ok I1 ea c hm l ?_
  refine PySem.W.callWith_K (first := [.ref a]) (h₀ := X.base) I.ok.mod.kin hm.kp (thn (ha.run pos pins s1 σ H1 _ I1 q) fun us s2 ⟨vs, H2, I2, r, q2⟩ => ⟨I2.kIn, ?_⟩) hst hpl
  replace q2 : sp (V.ref a :: (vs ++ [])) H2 Q E0 := q2
  rw [List.append_nil] at q2
  exact runG (us := .ref a :: us) (vs := .ref a :: vs) F hr gd hb I2 (.cons rfl r) q2
theorem pe_methG0 {pl : Sem Bool} (he : PE X o ta) (c : Cls X.K C) (hm : Meth X.K C m f) (F : FnG X.prog X.w X.K X.mg X.base k f fd ps sp) (hr : Room k X.A) (gd : X.A.guards = some []) (hb : Binds X.K fd ps [])
    (ht : eval (.Call (.Attribute o m apos) [] [] pos) X.env = (do
      let ov ← eval o X.env
      standAt apos.atName
      let (f, first) ← holding [ov] (getMethod ov m pl)
      callWith pos f first (backTo pos (starEach [] X.env)) (backToKw pos (keywordEach [] X.env))) := by rfl) :
    PE X (.Call (.Attribute o m apos) [] [] pos) (tMeth C m sp [] E0 ta tNil) := by
  refine ⟨fun pins s σ H Q I h => ?_⟩
  refine PySem.W.methodCall_KW (pl := pl) (thn (he.run pins s σ H _ I h) fun u s1 ⟨x, H1, I1, rx, a, dx, fs, ex, ea, l, q⟩ => ?_) ht
  subst ex
  obtain rfl : u = Value.ref a := rx
  refine getmeth_ok I1 ea c hm l ?_
  exact PySem.W.callWith_K0 (first := [.ref a]) I1.kIn hm.kp (runG (us := [.ref a]) (vs := [.ref a]) F hr gd hb I1 (.cons rfl .nil) q)
theorem run_makeG {pins : List (Addr × Obj)} {σ : L2.St} {H : Hp} {s : Shared} {Q : VK} {us : List Value} {vs : List V} (M : Mk X.K C f) (F : FnG X.prog X.w X.K X.mg X.base k f fd ps sp) (hr : Room (k + 1) X.A) (gd : X.A.guards = some []) (hb : Binds X.K fd ps [])
    (I : L2.Inv X pins σ H s) (r : Vals vs us)
    (h : ∀ x dx, H x = none → H dx = none → dx ≠ x → sp (.ref x :: vs) (upd (upd H dx (.own x)) x (.ins C dx [])) (fun v H2 => v = .non ∧ Q (.ref x) H2) E0) :
    wpAny (model X.prog X.w) X.A (call (.ref C) us) (EP X pins σ Q) X.xe s := by
  have hq := h (s.heap.objs.size + 1) s.heap.objs.size (I.hok.fresh (Nat.le_succ _)) (I.hok.fresh (Nat.le_refl _)) (Nat.ne_of_lt (Nat.lt_succ_self _))
  have I2 := Inv.made (C := C) I
  have r2 : Vals (V.ref (s.heap.objs.size + 1) :: vs) (Value.ref (s.heap.objs.size + 1) :: us) := .cons rfl r
  have hl : (Value.ref (s.heap.objs.size + 1) :: us).length = ps.length := by
    have e := r2.length
    rw [F.len _ _ _ _ hq] at e
    exact e.symm
  have bb := hb _ (Value.ref (s.heap.objs.size + 1) :: us) I2.kIn (by rw [List.append_nil]; exact hl)
  rw [List.append_nil] at bb
  refine wpAny_call (make_map (f := f) I.kIn M.makes M.init (beq_iff_eq.mp M.fn) (codeAny_mono (F.run _ X.stack _ _ ⟨Value.ref (s.heap.objs.size + 1) :: us, []⟩ (Value.ref (s.heap.objs.size + 1) :: us) _ _ E0 (hr.make C us []) (guards_make C us gd)
    (I2.env0.make C us []) bb r2 hq) fun r s' hq' => ?_))
  cases r with
  | error e => exact False.elim hq'
  | ok fl =>
    cases fl with
    | ret u =>
      obtain ⟨v, H', I3, rv, ev, q3⟩ := I2.after hq'
      subst ev
      exact ⟨rv, ⟨V.ref (s.heap.objs.size + 1), H', I3, rfl, q3⟩⟩
    | next => exact False.elim hq'
    | brk => exact False.elim hq'
    | cont => exact False.elim hq'
theorem pe_makeG (M : Mk X.K C f) (F : FnG X.prog X.w X.K X.mg X.base k f fd ps sp) (hr : Room (k + 1) X.A) (gd : X.A.guards = some []) (hg : Gl X x) (hm : X.mg x = some (.ref C)) (hb : Binds X.K fd ps [])
    (ha : PA X (e :: es) t) (hdb : (x == ("__debug__" : Str)) = false := by decide) (he : starEach (e :: es) X.env = (false, eval e X.env) :: starEach es X.env := by rfl) (hpl : (backTo pos (starEach es X.env)).any (·.1) = false := by rfl) :
    PE X (.Call (.Name x p) (e :: es) [] pos) (tMake C sp [] E0 t) := by
  refine ⟨fun pins s σ H Q I h => ?_⟩
  refine wpAny_Call_Name_kw (ld_glob I hg hm ?_ hdb)
  refine PySem.W.callWith_K (h₀ := X.base) I.ok.mod.kin M.kp (thn (ha.run pos pins s σ H _ I h) fun us s1 ⟨vs, H1, I1, r, q⟩ => ⟨I1.kIn, ?_⟩) he hpl
  refine run_makeG M F hr gd hb I1 r fun x dx h1 h2 h3 => ?_
  have := q x dx h1 h2 h3
  rw [List.append_nil] at this
  exact this
end
noncomputable def CalM (P : Program) (w : World) (K : Fg) (mg : Str → Option Value) (base : Heap) (k : Nat) (c m : Str) (ps : List Str) (sp : Sp) : Prop :=
  ∃ C : Addr, clsOf K c = some C ∧ Cls K C ∧ ∃ f fd, FnG P w K mg base k f fd ps sp ∧ Meth K C m f ∧ Binds K fd ps []
noncomputable def CalK (P : Program) (w : World) (K : Fg) (mg : Str → Option Value) (base : Heap) (k : Nat) (c : Str) (ps : List Str) (sp : Sp) : Prop :=
  ∃ C : Addr, clsOf K c = some C ∧ mg c = some (.ref C) ∧ ∃ f fd, FnG P w K mg base k f fd ps sp ∧ Mk K C f ∧ Binds K fd ps []
end MD
set_option Elab.async false
set_option linter.all false
set_option maxRecDepth 100000
set_option maxHeartbeats 1000000
namespace MD
open PySem PySem.Spec PyProof.Rows L2
variable {ww : WW}
section
variable {K : Fg}
noncomputable def revM (f : ME) : MA := fun env st => (f env st).bind fun p => match dr p.2 p.1 with
  | .lst ds => some (ds.reverse, p.2)
  | _ => none
theorem Rps.reverse {dk : Dk} {F : Fz} : ∀ {vs : List V} {ds : List D}, Rps K dk F vs ds → Rps K dk F vs.reverse ds.reverse
  | _, _, .nil => .nil
  | _, _, .cons a b => by
    rw [List.reverse_cons, List.reverse_cons]
    exact (Rps.reverse b).append (Rps.one a)
end
section
variable {X : Cx} {k j : Nat} {c m : Str} {ps : List Str} {sp : Sp} {p pos apos : Pos} {e o : Expr} {es : List Expr} {ta : TE} {t : TA}
theorem pe_methC {pl : Sem Bool} (C : CalM X.prog X.w X.K X.mg X.base j c m ps sp) (hr : Room k X.A) (gd : X.A.guards = some []) (he : PE X o ta) (ha : PA X (e :: es) t) (hj : j ≤ k := by decide)
    (hst : starEach (e :: es) X.env = (false, eval e X.env) :: starEach es X.env := by rfl) (hpl : (backTo pos (starEach es X.env)).any (·.1) = false := by rfl)
    (ht : eval (.Call (.Attribute o m apos) (e :: es) [] pos) X.env = (do
      let ov ← eval o X.env
      standAt apos.atName
      let (f, first) ← holding [ov] (getMethod ov m pl)
      callWith pos f first (backTo pos (starEach (e :: es) X.env)) (backToKw pos (keywordEach [] X.env))) := by rfl) :
    PE X (.Call (.Attribute o m apos) (e :: es) [] pos) (tMeth C.choose m sp [] E0 ta t) := by
  obtain ⟨_, cl, f, fd, F, hm, hb⟩ := C.choose_spec
  exact pe_methG he cl hm F (hr.mono hj) gd hb ha hst hpl ht
theorem pe_methC0 {pl : Sem Bool} (C : CalM X.prog X.w X.K X.mg X.base j c m ps sp) (hr : Room k X.A) (gd : X.A.guards = some []) (he : PE X o ta) (hj : j ≤ k := by decide)
    (ht : eval (.Call (.Attribute o m apos) [] [] pos) X.env = (do
      let ov ← eval o X.env
      standAt apos.atName
      let (f, first) ← holding [ov] (getMethod ov m pl)
      callWith pos f first (backTo pos (starEach [] X.env)) (backToKw pos (keywordEach [] X.env))) := by rfl) :
    PE X (.Call (.Attribute o m apos) [] [] pos) (tMeth C.choose m sp [] E0 ta tNil) := by
  obtain ⟨_, cl, f, fd, F, hm, hb⟩ := C.choose_spec
  exact pe_methG0 he cl hm F (hr.mono hj) gd hb ht
theorem pe_makeC (C : CalK X.prog X.w X.K X.mg X.base j c ps sp) (hr : Room k X.A) (gd : X.A.guards = some []) (hg : Gl X c) (ha : PA X (e :: es) t) (hj : j + 1 ≤ k := by decide) (hdb : (c == ("__debug__" : Str)) = false := by decide)
    (he : starEach (e :: es) X.env = (false, eval e X.env) :: starEach es X.env := by rfl) (hpl : (backTo pos (starEach es X.env)).any (·.1) = false := by rfl) : PE X (.Call (.Name c p) (e :: es) [] pos) (tMake C.choose sp [] E0 t) := by
  obtain ⟨_, hm, f, fd, F, M, hb⟩ := C.choose_spec
  exact pe_makeG M F (hr.mono hj) gd hg hm hb ha hdb he hpl
end
section
variable {P : Program} {w : World} {K : Fg} {mg : Str → Option Value} {base : Heap} {j n : Nat} {c m : Str} {ps : List Str} {mf : MF} {to : TE} {ta : TA} {fo : ME} {a : MA} {E : XK}
theorem im_methC (C : CalM P w K mg base j c m ps (spD K (n + 1) mf)) (ho : Im K to fo) (ha : ImA K ta a) (hn : ∀ env st p, a env st = some p → p.1.length = n) : Im K (tMeth C.choose m (spD K (n + 1) mf) [] E to ta) (methM c m mf fo a) := im_meth C.choose_spec.1 ho ha hn
theorem im_makeC (C : CalK P w K mg base j c ps (spD K (n + 1) mf)) (ha : ImA K ta a) (hn : ∀ env st p, a env st = some p → p.1.length = n) : Im K (tMake C.choose (spD K (n + 1) mf) [] E ta) (makeM c mf a) := im_make C.choose_spec.1 ha hn
end
end MD
set_option Elab.async false
set_option linter.all false
set_option maxRecDepth 100000
set_option maxHeartbeats 1000000
namespace MD
open PySem PySem.Spec PyProof.Rows L2
variable {ww : WW}
noncomputable def env2 (n : Nat) : Sg := .un :: .val .deck :: .own (.lst, []) :: List.replicate (n - 3) .un
theorem clsOk_mk {K : Fg} {c : Str} {C : Addr} {fl : List Str} (h : PySem.W.nsIn K mainGlobals c = some (some (.ref C))) (cl : Cls K C) (no : ∀ f ∈ fl, NoAttr K C f) : ClsOk K c fl := by
  have e : clsOf K c = some C := by unfold clsOf; rw [h]
  refine ⟨fun C' h' => ?_, fun C' h' => ?_⟩ <;> (rw [e] at h'; cases h')
  · exact cl
  · exact no
theorem calM_mk {P : Program} {w : World} {K : Fg} {mg : Str → Option Value} {base : Heap} {k : Nat} {c m : Str} {ps : List Str} {sp : Sp} {C f : Addr} {fd : FuncData} (h : PySem.W.nsIn K mainGlobals c = some (some (.ref C))) (cl : Cls K C) (F : FnG P w K mg base k f fd ps sp) (M : Meth K C m f) (b : Binds K fd ps []) : CalM P w K mg base k c m ps sp :=
  ⟨C, by unfold clsOf; rw [h], cl, f, fd, F, M, b⟩
theorem calK_mk {P : Program} {w : World} {K : Fg} {mg : Str → Option Value} {base : Heap} {k : Nat} {c : Str} {ps : List Str} {sp : Sp} {C f : Addr} {fd : FuncData} (h : PySem.W.nsIn K mainGlobals c = some (some (.ref C))) (hm : mg c = some (.ref C)) (F : FnG P w K mg base k f fd ps sp) (M : Mk K C f) (b : Binds K fd ps []) : CalK P w K mg base k c ps sp :=
  ⟨C, by unfold clsOf; rw [h], hm, f, fd, F, M, b⟩
end MD
set_option Elab.async false
set_option linter.all false
set_option maxRecDepth 100000
set_option maxHeartbeats 1000000
namespace MD
open PySem PySem.Spec PyProof.Rows L2
end MD
set_option Elab.async false
set_option linter.all false
set_option maxRecDepth 100000
set_option maxHeartbeats 1000000
namespace MD
open PySem PySem.Spec PyProof.Rows L2
end MD
set_option Elab.async false
set_option linter.all false
set_option maxRecDepth 100000
set_option maxHeartbeats 1000000
namespace MD
open PySem PySem.Spec PyProof.Rows L2 RZ
end MD
set_option Elab.async false
set_option linter.all false
set_option maxRecDepth 100000
set_option maxHeartbeats 1000000
namespace MD
open PySem PySem.Spec PyProof.Rows L2
end MD
set_option Elab.async false
set_option linter.all false
set_option maxRecDepth 100000
set_option maxHeartbeats 4000000
namespace MD
open PySem PySem.Spec PyProof.Rows L2 RZ
variable {ww : WW}
noncomputable def keyV : Value → Key
  | .int k _ => .inl k
  | .str x _ => .inr x
  | _ => .inl 0
noncomputable def GoodX (P : Program) (w : World) (e : Int × Value) : Prop := RelV (kV (keyV e.2)) e.2 ∧ e.1 = (mixKind P w).hash (keyV e.2)
noncomputable def mem2 (es : List (Int × Value)) : List Key := es.map fun e => keyV e.2
noncomputable def SetX (P : Program) (w : World) (h : Heap) (a : Addr) (ks : List Key) : Prop :=
  ∃ o es ep t, h.get? a = some o ∧ o.ExactSet ∧ o.data = .set es ep t ∧ (∀ e ∈ es.toList, GoodX P w e) ∧ (mem2 es.toList).Perm ks ∧ ks.Nodup ∧ es.size < scanBound ∧
    t.fits es.size = true ∧ Ris t.place.toList ∧ (w.params.followText "set-order" = true ∨ t.led = true)
section
variable {P : Program} {w : World} {h h' : Heap} {a : Addr} {ks : List Key}
theorem SetX.at (R : SetX P w h a ks) (k : ∀ o, h.get? a = some o → h'.get? a = some o) : SetX P w h' a ks := by
  obtain ⟨o, es, ep, t, ho, r⟩ := R
  exact ⟨o, es, ep, t, k o ho, r⟩
end
end MD
set_option Elab.async false
set_option linter.all false
set_option maxRecDepth 100000
set_option maxHeartbeats 4000000
namespace MD
open PySem PySem.Spec PyProof.Rows L2 RZ
end MD
set_option Elab.async false
set_option linter.all false
set_option maxRecDepth 100000
set_option maxHeartbeats 4000000
namespace MD
open PySem PySem.Spec PyProof.Rows L2 RZ
end MD
set_option Elab.async false
set_option linter.all false
set_option maxRecDepth 100000
set_option maxHeartbeats 1000000
namespace MD
open PySem PySem.Spec PyProof.Rows L2
end MD
set_option Elab.async false
set_option linter.all false
set_option maxRecDepth 100000
set_option maxHeartbeats 1000000
namespace MD
open PySem PySem.Spec PyProof.Rows L2
end MD
set_option Elab.async false
set_option linter.all false
set_option maxRecDepth 100000
set_option maxHeartbeats 1000000
namespace MD
open PySem PySem.Spec PyProof.Rows L2
end MD
set_option Elab.async false
set_option linter.all false
set_option maxRecDepth 100000
set_option maxHeartbeats 1000000
namespace MD
open PySem PySem.Spec PyProof.Rows L2
end MD
set_option Elab.async false
set_option linter.all false
set_option maxRecDepth 100000
set_option maxHeartbeats 1000000
namespace MD
open PySem PySem.Spec PyProof.Rows L2
end MD
set_option Elab.async false
set_option linter.all false
set_option maxRecDepth 100000
set_option maxHeartbeats 1000000
namespace MD
open PySem PySem.Spec PyProof.Rows L2
end MD
set_option Elab.async false
set_option linter.all false
set_option maxRecDepth 100000
set_option maxHeartbeats 1000000
namespace MD
open PySem PySem.Spec PyProof.Rows L2
end MD
set_option Elab.async false
set_option linter.all false
set_option maxRecDepth 100000
set_option maxHeartbeats 1000000
namespace MD
open PySem PySem.Spec PyProof.Rows L2
end MD
set_option Elab.async false
set_option linter.all false
set_option maxRecDepth 100000
set_option maxHeartbeats 1000000
namespace MD
open PySem PySem.Spec PySem.Calls PyProof.Rows PyProof.V PySem.W L2
variable {ww : WW}
structure NkL [WW] (K : Fg) (H : Hp) (c : Addr) (od : Obj) (zs : Zs) : Prop where
  h : H c = some (.frz od (.ext (NkAt c zs)))
  k : ∀ z ∈ zs, Nk K H z.1 (.ref z.2.1) ∧ z.1.depth ≤ 8
  n : (zs.map fun z => z.1).Nodup
theorem NkL.dict {X : Cx} {pins : List (Addr × Obj)} {σ : List (Option V)} {H : Hp} {s : Shared} {c : Addr} {od : Obj} {zs : Zs} (hw : X.w = WW.w) (d : NkL X.K H c od zs) (I : L2.Inv X pins σ H s) : s.heap.DictOfH (nestedKind X.prog X.w) c zs := by
  obtain ⟨hd, ⟨h1, h2, o, es, ep, ho, hx, hdt, he⟩, _, _⟩ := I.hok c _ d.h
  exact ⟨o, es, ep, ho, hx, hdt, by rw [hw]; exact he, fun z hz => ⟨Nk.is I (d.k z hz).1 rfl, (d.k z hz).2⟩, d.n⟩
end MD
set_option Elab.async false
set_option linter.all false
set_option maxRecDepth 100000
set_option maxHeartbeats 1000000
namespace MD
open PySem PySem.Spec PyProof.Rows L2
end MD
set_option Elab.async false
set_option linter.all false
set_option maxRecDepth 100000
set_option maxHeartbeats 1000000
namespace MD
open PySem PySem.Spec PyProof.Rows L2
variable {ww : WW}
section
variable {K : Fg}
noncomputable def tStuck : TS := fun _ _ _ => False
theorem ps_stuck {X : Cx} {x : Stmt} : PS X x tStuck := ⟨fun _ _ _ _ _ _ h => h.elim⟩
noncomputable def stkM : MS := fun _ _ => none
theorem is_stuck : ImS K tStuck stkM := fun dk H0 F0 F σ H env st fl st' g e E hd => by cases e
end
end MD
set_option Elab.async false
set_option linter.all false
set_option maxRecDepth 100000
set_option maxHeartbeats 2000000
namespace MD
open PySem PySem.Spec PyProof.Rows L2
variable {ww : WW}
/-- U.__init__(self, ..), U an own class over ValueError without one of its own -/
structure UInit (K : Fg) (C : Addr) : Prop where
  rd : PySem.W.readsIn K C (.type "type") = true
  ga : PySem.W.specialIn K (.ref C) "__getattribute__" = some (some (.builtin "type.__getattribute__"))
  at_ : PySem.W.findCls K (.ref C) (.type "type") "__init__" = some (.val (.builtin "ValueError.__init__"))
section
variable {X : Cx} {o e : Expr} {es : List Expr} {to te : TE} {ta : TA} {f c : Str} {p p' p1 p2 pos : Pos} {U : Addr}
theorem pe_uinit {pl : Sem Bool} (hg : Gl X c) (hm : X.mg c = some (.ref U)) (M : UInit X.K U) (ha : PA X (e :: es) ta) (hdb : (c == ("__debug__" : Str)) = false := by decide)
    (hc : eval (.Call (.Attribute (.Name c p1) "__init__" p2) (e :: es) [] pos) X.env = (do
      let ov ← eval (.Name c p1) X.env
      standAt p2.atName
      let (f, first) ← holding [ov] (getMethod ov "__init__" pl)
      callWith pos f first (backTo pos (starEach (e :: es) X.env)) (backToKw pos (keywordEach [] X.env))) := by rfl)
    (he : starEach (e :: es) X.env = (false, eval e X.env) :: starEach es X.env := by rfl) (hpl : (backTo pos (starEach es X.env)).any (·.1) = false := by rfl) :
    PE X (.Call (.Attribute (.Name c p1) "__init__" p2) (e :: es) [] pos) (tVeI X.K ta) := by
  refine ⟨fun pins s σ H Q I h => ?_⟩
  refine PySem.W.methodCall_KW (pl := pl) (ld_glob I hg hm ?_ hdb) hc
  refine PySem.W.method_cls I.kIn M.ga (PySem.W.cls_value I.kIn M.rd M.at_ rfl ?_)
  show wpAny _ _ (callWith pos (Value.builtin "ValueError.__init__") [] (backTo pos (starEach (e :: es) X.env)) []) _ _ _
  refine PyProof.Rows.callWith_method1 (thn (ha.run pos pins _ σ H _ (I.tok _) h) fun us s1 ⟨vs, H1, I1, r1, a, C, ws, ev, hl, T, ea, q⟩ => ?_) he hpl
  subst ev
  cases r1 with
  | @cons _ u0 _ ur ra rw' =>
    obtain rfl : u0 = Value.ref a := ra
    have hlen : ur.length ≤ sizeLine := by
      rw [← Paired.length rw', sizeLine_eq]
      omega
    exact oinit_ok T I1 ea hlen fun s' J => ⟨.non, H1, J, rfl, q⟩
end
/-- what __init__(self, y) does -/
noncomputable def spEI (C : Addr) (f : Str) : Sp := fun vs H Q _ => ∃ (a : Addr) (y : V), vs = [.ref a, y] ∧ H a = some (exo a C none) ∧ ∀ dx, H dx = none → dx ≠ a → Q .non (upd (upd H dx (exd dx [(f, y)])) a (exo a C (some dx)))
/-- U.__init__(self, text); self.f = y -/
theorem exc_init {K : Fg} {C : Addr} {f : Str} (T : OexC K C) (hno : PySem.W.findIn K (.ref C) f = some none) {txt : Str} (vs : List V) (H : Hp) (Q : VK) (E : XK) (h : spEI C f vs H Q E) (N : List Str) (hN : N.length = 2) :
    tSeq (tDrop (tVeI K (tCons (tVar 0) (tCons (tC (.str txt)) tNil)))) (tOst K f (tVar 0) (tVar 1)) { nx := fun _ H' => Q .non H', rt := Q } (L2.start N vs) H := by
  obtain ⟨a, y, rfl, ha, q⟩ := h
  have h0 : (L2.start N [.ref a, y])[0]? = some (some (.ref a)) := rfl
  have h1 : (L2.start N [.ref a, y])[1]? = some (some y) := rfl
  refine ⟨_, h0, a, C, _, rfl, by simp, T, ha, ?_⟩
  refine ⟨_, h1, _, h0, a, C, rfl, T, hno, .inl ⟨ha, fun dx hd hn => q dx hd hn⟩⟩
/-- the class c of exceptions with the field f -/
structure XCls (P : Program) (w : World) (K : Fg) (mg : Str → Option Value) (base : Heap) (c f : Str) (C : Addr) : Prop where
  g : mg c = some (.ref C)
  o : OexC K C
  ga : PySem.W.findIn K (.ref C) "__getattribute__" = some (some (.builtin "BaseException.__getattribute__"))
  gg : PySem.W.findIn K (.ref C) "__getattr__" = some none
  no : PySem.W.findIn K (.ref C) f = some none
  hd : PySem.W.hasDictIn K C = true
  ini : ∃ fI fd pn, PySem.W.findIn K (.ref C) "__init__" = some (some (.ref fI)) ∧ PySem.W.typeIn K (.ref fI) = some (.type "function") ∧ FnOk P w K mg base CX0 1 fI fd ["self", pn] (spEI C f) ∧ Binds K fd ["self", pn] []
section
variable {X : Cx} {c f : Str} {C : Addr}
theorem upd_exc {H1 : Hp} {a dx : Addr} {o1 o2 o3 u : HO} (ha : H1 a = none) (hx : dx ≠ a) : upd (del (upd (upd (upd H1 a o1) dx o2) a o3) a) dx u = upd H1 dx u := by
  funext b
  by_cases hb : b = dx
  · rw [hb, upd_same, upd_same]
  · rw [upd_ne hb, upd_ne hb]
    by_cases hba : b = a
    · rw [hba, del_same, ha]
    · rw [del_ne hba, upd_ne hba, upd_ne hb, upd_ne hba]
/-- raise C(e) -/
noncomputable def tRaiseX (C : Addr) (f : Str) (W : WX) (te : TE) : TS := fun _ σ H => tMkO C (spEI C f) [] (tCons te tNil) σ H fun cls d H' => W cls d σ H'
theorem ps_raiseX {W : WX} {e : Expr} {te : TE} {p pos pos2 : Pos} (hc : X.calm = true) (T : XCls X.prog X.w X.K X.mg X.base c f C) (hr : Room 2 X.A) (tk : Takes X W) (ha : PA X [e] (tCons te tNil)) (hg : Gl X c := by rfl) (hdb : (c == ("__debug__" : Str)) = false := by decide)
    (he : starEach (e :: []) X.env = (false, eval e X.env) :: starEach [] X.env := by rfl) (hpl : (backTo pos (starEach [] X.env)).any (·.1) = false := by rfl) :
    PS X (.Raise (some (.Call (.Name c p) [e] [] pos)) none pos2) (tRaiseX C f W te) := by
  obtain ⟨fI, fd, pn, i1, i2, i3, i4⟩ := T.ini
  exact ps_raise hc tk (pmk_oex T.o i1 i2 i3 hr i4 .nil (fun _ _ _ _ _ _ _ h => h.elim) hg T.g ha hdb he hpl)
end
inductive Fx where
  | fl (f : Fl) | xc (c f : Str) (d : D)
noncomputable abbrev MSX := Sg → S → Option (Fx × S)
/-- where the field f of an exception stands; f is empty where the class has none -/
noncomputable def XdAt (f : Str) (v : V) (H : Hp) : Option Addr → Prop
  | none => f = ""
  | some dx => f ≠ "" ∧ H dx = some (.xd [(f, v)])
theorem XdAt.at_ {f : Str} {v : V} {H : Hp} {dx : Option Addr} (h : XdAt f v H dx) (hf : f ≠ "") : ∃ d, dx = some d ∧ H d = some (.xd [(f, v)]) := by
  cases dx with
  | none => exact absurd h hf
  | some d => exact ⟨d, rfl, h.2⟩
/-- an exception of class c with f = d, as the heap H' has it -/
noncomputable def Xw [WW] (K : Fg) (mg : Str → Option Value) (dk : Dk) (H0 : Hp) (F0 : Fz) (st : S) (c f : Str) (d : D) (E : XK) : Prop :=
  ∀ (C : Addr) (dx : Option Addr) (v : V) (F' : Fz) (H : Hp), mg c = some (.ref C) → Ext dk F0 H0 F' H → Wd K dk F' H st → Rp K dk F' v d → XdAt f v H dx → E (.ref C) dx H
noncomputable def DnX [WW] (K : Fg) (mg : Str → Option Value) (W : XK) (dk : Dk) (H0 : Hp) (F0 F : Fz) (E : Ends) (st : S) : Fx → Prop
  | .fl f => Dn K dk H0 F0 F E st f
  | .xc c f d => Xw K mg dk H0 F0 st c f d W
noncomputable def ImSX [WW] (K : Fg) (mg : Str → Option Value) (W : XK) (ts : TS) (f : MSX) : Prop := ∀ (dk : Dk) (H0 : Hp) (F0 F : Fz) (σ : L2.St) (H : Hp) (env : Sg) (st : S) (r : Fx) (st' : S), Good K dk H0 F0 F σ H env st → f env st = some (r, st') → ∀ E : Ends, DnX K mg W dk H0 F0 F E st' r → ts E σ H
section
variable {K : Fg} {mg : Str → Option Value} {W : XK}
theorem DnX.mono {dk : Dk} {H0 : Hp} {F0 F F' : Fz} {E : Ends} {st : S} {r : Fx} (le : Le F F') (h : DnX K mg W dk H0 F0 F E st r) : DnX K mg W dk H0 F0 F' E st r := by
  cases r with
  | fl f => exact Dn.mono le h
  | xc c f d => exact h
noncomputable def liX (f : MS) : MSX := fun env st => (f env st).map fun p => (.fl p.1, p.2)
theorem isx_li {t : TS} {f : MS} (h : ImS K t f) : ImSX K mg W t (liX f) := fun dk H0 F0 F σ H env st r st' g e E hd => by
  obtain ⟨⟨fl, s1⟩, e1, e⟩ := mpd e
  cases e
  exact h dk H0 F0 F σ H env st fl s1 g e1 E hd
noncomputable def seqX (f h : MSX) : MSX := fun env st => (f env st).bind fun p => match p.1 with
  | .fl (.nx e) => h e p.2
  | r => some (r, p.2)
theorem isx_seq {t u : TS} {f h : MSX} (h1 : ImSX K mg W t f) (h2 : ImSX K mg W u h) : ImSX K mg W (tSeq t u) (seqX f h) := fun dk H0 F0 F σ H env st r st' g e E hd => by
  obtain ⟨⟨r1, s1⟩, e1, e⟩ := bnd e
  cases r1 with
  | fl fl1 =>
    cases fl1 with
    | nx env1 => exact h1 dk H0 F0 F σ H env st _ s1 g e1 _ fun F1 σ1 H1 le1 g1 => h2 dk H0 F0 F1 σ1 H1 env1 s1 r st' g1 e E (hd.mono le1)
    | rt d => cases e; exact h1 dk H0 F0 F σ H env st _ s1 g e1 _ hd
    | bk d => cases e; exact h1 dk H0 F0 F σ H env st _ s1 g e1 _ hd
    | ct d => cases e; exact h1 dk H0 F0 F σ H env st _ s1 g e1 _ hd
  | xc c f d => cases e; exact h1 dk H0 F0 F σ H env st _ s1 g e1 _ hd
noncomputable def ifX (c : MT) (f h : MSX) : MSX := fun env st => (c env st).bind fun p => if p.1 then f env p.2 else h env p.2
theorem isx_if {c : TT} {t u : TS} {fc : MT} {f h : MSX} (h0 : ImT K c fc) (h1 : ImSX K mg W t f) (h2 : ImSX K mg W u h) : ImSX K mg W (tIfS c t u) (ifX fc f h) := fun dk H0 F0 F σ H env st r st' g e E hd => by
  obtain ⟨⟨b, s1⟩, e1, e⟩ := bnd e
  refine h0 dk H0 F0 F σ H env st b s1 g e1 _ fun F1 H1 x1 g1 => ?_
  cases b with
  | true => exact h1 dk H0 F0 F1 σ H1 env s1 r st' g1 e E (hd.mono x1.f)
  | false => exact h2 dk H0 F0 F1 σ H1 env s1 r st' g1 e E (hd.mono x1.f)
noncomputable def raiX (c f : Str) (g : ME) : MSX := fun env st => (g env st).map fun p => (.xc c f p.1, p.2)
theorem isx_raise {te : TE} {g : ME} {c f : Str} {C : Addr} (hm : mg c = some (.ref C)) (h : Im K te g) (hf : f ≠ "" := by decide) : ImSX K mg W (tRaiseX C f (fun cls d _ H => W cls d H) te) (raiX c f g) := fun dk H0 F0 F σ H env st r st' gd e E hd => by
  obtain ⟨⟨d, s1⟩, e1, e⟩ := mpd e
  cases e
  refine h dk H0 F0 F σ H env st d s1 gd e1 _ fun v F1 H1 x1 g1 r1 => ?_
  refine ⟨by simp, fun a ha => ⟨a, v, by simp, upd_same, fun dx hx hn => ⟨rfl, dx, [(f, v)], upd_same, ?_, ?_, ?_⟩⟩⟩
  · rw [upd_ne hn, upd_same]
  · rw [← hx, upd_ne hn]
  · have hx1 : H1 dx = none := by rw [← hx, upd_ne hn]
    rw [upd_exc ha hn]
    have px : Px F1 H1 F1 (upd H1 dx (.xd [(f, v)])) := Px.lay g1.wd.sub hx1
    have g2 := g1.px px
    exact hd C (some dx) v F1 _ hm g2.ext g2.wd r1 ⟨hf, upd_same⟩
end
structure FnX (P : Program) (w : World) (K : Fg) (mg : Str → Option Value) (base : Heap) (k : Nat) (f : Addr) (fd : FuncData) (ps : List Str) (sp : Sp) : Prop where
  len : ∀ vs H Q E, sp vs H Q E → vs.length = ps.length
  run : ∀ (A : Around) (outer : List Env) (s : Shared) (H : Hp) (args : Args) (us : List Value) (vs : List V) (Q : VK) (E : XK), Room k A → A.guards = some [] → Env0 P w K mg base A outer s H → BindsTo s fd args (ps.zip us) → Vals vs us →
    sp vs H Q E → codeAny (model P w) A (.call (.ref f) args) (CR (L2.CX P w) outer P w H s Q E) s
theorem fnX_of {P : Program} {w : World} {K : Fg} {mg : Str → Option Value} {base : Heap} {x qual : Str} {st : Stmt} {f : Addr} {fd : FuncData} {N ps : List Str} {k : Nat} {sp : Sp} (Fn : Fun K x qual st f fd) (S : FnScope N ps (defScope st))
    (len : ∀ vs H Q E, sp vs H Q E → vs.length = ps.length)
    (hbody : ∀ (cdv : Value) (A : Around) (outer : List Env) (s : Shared) (H : Hp) (vs : List V) (Q : VK) (E : XK), Room k (A.deeper (envOfC qual (defScope st) s.heap.objs.size f cdv)) → (A.deeper (envOfC qual (defScope st) s.heap.objs.size f cdv)).guards = some [] → sp vs H Q E →
      ∃ t, PSs (cxOf (L2.CX P w) P w K mg base N qual (defScope st) f cdv A outer s H E) (defBody st) t ∧ t { nx := fun _ H' => Q .non H', rt := Q } (L2.start N vs) H) : FnX P w K mg base (k + 1) f fd ps sp := by
  refine ⟨len, fun A outer s H args us vs Q E hr gd e0 hb r hsp => ?_⟩
  obtain ⟨oc, od, kV, doc, pm, an, cdv, ct, osl, rfl, lk, hcd⟩ := Fn.ex
  have hl := len _ _ _ _ hsp
  have KX : K.In s.heap := e0.mod.kin.keeps fun b o e => (e0.bs b o e).1
  have lim : s.heap.NoLimit := e0.mod.nolimit.keeps fun b o e => (e0.bs b o e).1
  have hkind : ∀ y ∈ ps.zip us, (defScope st).names.lookup y.1 = some .local ∨ ((defScope st).names.lookup y.1 = some .cell ∧ ((cellsFrom (s.heap.objs.size + 1) (defScope st).names []).lookup y.1).isSome = true) := by
    rintro ⟨n, v⟩ hy
    rcases S.par n (List.of_mem_zip hy).1 with q | q
    · exact .inl q
    · exact .inr ⟨q, PySem.W.cellsFrom_some _ _ _ (.inl q)⟩
  refine codeAny_call_function hr.depth (KX _ _ lk) rfl S.co S.gen rfl (PySem.W.codeRec_of KX hcd) (hb _ _ _ _ ?_)
  refine wpAny_newFunctionEnv_cells S.kind hkind fun env he s1 y => ?_
  subst he
  refine ⟨lim.keeps y.toInCall.keep, codeAny_func ?_⟩
  obtain ⟨t, ht, hq⟩ := hbody cdv A outer s H vs Q E (hr.deeper _) (guards_deeper _ gd) hsp
  have I := inv_start (CX := L2.CX P w) (E := E) (qual := qual) (f := f) (cd := cdv) S hr.hd e0 hl r y
  refine wpAny_mono (ht.run [] s1 (L2.start N vs) H _ I hq) (fun fl s' hs => ?_) fun er s' hs => hs
  cases fl with
  | ret u =>
    obtain ⟨v, σ', H', J, rv, q⟩ := hs
    exact ⟨v, H', J.os, J.bare, J.base, J.hok, rv, q⟩
  | next =>
    obtain ⟨σ', H', J, q⟩ := hs
    exact ⟨V.non, H', J.os, J.bare, J.base, J.hok, rfl, q⟩
  | brk =>
    obtain ⟨_, _, _, q⟩ := hs
    exact False.elim q
  | cont =>
    obtain ⟨_, _, _, q⟩ := hs
    exact False.elim q
/-- what a mirror of a def that raises gives -/
inductive Rx where
  | ok (d : D) | xc (c f : Str) (d : D)
noncomputable abbrev MFX := List D → S → Option (Rx × S)
noncomputable def spX [WW] (K : Fg) (mg : Str → Option Value) (n : Nat) (m : MFX) : Sp := fun vs H Q E => vs.length = n ∧ ∃ (dk : Dk) (F : Fz) (ds : List D) (st : S) (r : Rx) (st' : S), Wd K dk F H st ∧ Rps K dk F vs ds ∧ m ds st = some (r, st') ∧
  match r with
  | .ok d => ∀ v F' H', Ext dk F H F' H' → Wd K dk F' H' st' → Rp K dk F' v d → Q v H'
  | .xc c f d => Xw K mg dk H F st' c f d E
noncomputable def runX (N : Nat) (b : MSX) : MFX := fun ds st => (b (ds.map Sl.val ++ List.replicate (N - ds.length) Sl.un) st).bind fun p => match p.1 with
  | .fl (.rt d) => some (.ok d, p.2)
  | .fl (.nx _) => some (.ok .non, p.2)
  | .xc c f d => some (.xc c f d, p.2)
  | _ => none
section
variable {K : Fg}
theorem fnDX {P : Program} {w : World} {mg : Str → Option Value} {base : Heap} {x qual : Str} {st : Stmt} {f : Addr} {fd : FuncData} {N ps : List Str} {k : Nat} {b : MSX} (Fn : Fun K x qual st f fd) (S : FnScope N ps (defScope st)) (hN : ps.length ≤ N.length)
    (hbody : ∀ (cdv : Value) (A : Around) (outer : List Env) (s : Shared) (H : Hp) (E : XK), Room k (A.deeper (envOfC qual (defScope st) s.heap.objs.size f cdv)) → (A.deeper (envOfC qual (defScope st) s.heap.objs.size f cdv)).guards = some [] →
      ∃ t, PSs (cxOf (L2.CX P w) P w K mg base N qual (defScope st) f cdv A outer s H E) (defBody st) t ∧ ImSX K mg E t b) : FnX P w K mg base (k + 1) f fd ps (spX K mg ps.length (runX N.length b)) := by
  refine fnX_of Fn S (fun vs H Q E h => h.1) fun cdv A outer s H vs Q E hr gd h => ?_
  obtain ⟨hlv, dk, F, ds, s0, r, s1, wd, rr, e, q⟩ := h
  obtain ⟨t, h1, h2⟩ := hbody cdv A outer s H E hr gd
  refine ⟨t, h1, ?_⟩
  obtain ⟨⟨x, s2⟩, e1, e⟩ := bnd e
  refine h2 dk H F F (L2.start N vs) H _ s0 x s2 (good_start wd rr (by rw [hlv]; exact hN)) e1 _ ?_
  cases x with
  | fl fl =>
    cases fl with
    | rt d' => cases e; exact fun v F' H' x w r => q v F' H' x w r
    | nx en => cases e; exact fun F' σ' H' le g => q .non F' H' g.ext g.wd .non
    | bk en => cases e
    | ct en => cases e
  | xc c f d => cases e; exact q
end
section
variable {X : Cx} {k : Nat} {f : Addr} {fd : FuncData} {ps : List Str} {sp : Sp} {x : Str} {p pos : Pos} {e : Expr} {es : List Expr} {t : TA} {E : L2.St → XK}
theorem pe_callX (F : FnX X.prog X.w X.K X.mg X.base k f fd ps sp) (hr : Room k X.A) (gd : X.A.guards = some []) (hg : Gl X x) (hm : X.mg x = some (.ref f)) (hk : PySem.W.keepIn X.K (.ref f) = true) (hb : Binds X.K fd ps []) (hx : ∀ σ, PassesAt (L2.CX X.prog X.w) X σ (E σ))
    (ha : PA X (e :: es) t) (hdb : (x == ("__debug__" : Str)) = false := by decide) (he : starEach (e :: es) X.env = (false, eval e X.env) :: starEach es X.env := by rfl) (hpl : (backTo pos (starEach es X.env)).any (·.1) = false := by rfl) :
    PE X (.Call (.Name x p) (e :: es) [] pos) (tCallS sp E t) := by
  refine ⟨fun pins s σ H Q I h => ?_⟩
  refine wpAny_Call_Name_kw (ld_glob I hg hm ?_ hdb)
  refine PySem.W.callWith_K (h₀ := X.base) I.ok.mod.kin hk (thn (ha.run pos pins s σ H _ I h) fun us s1 q0 => ?_) he hpl
  obtain ⟨vs, H1, I1, r, q⟩ := q0
  refine ⟨I1.kIn, ?_⟩
  have hl : us.length = ps.length := r.length.symm.trans (F.len _ _ _ _ q)
  have bb := hb s1 us I1.kIn (by rw [List.append_nil]; exact hl)
  rw [List.append_nil] at bb
  refine wpAny_call (codeAny_mono (F.run X.A X.stack s1 H1 ⟨us, []⟩ us vs Q (E σ) hr gd I1.env0 bb r q) fun rr s' hq => ?_)
  cases rr with
  | error er => exact hx σ pins H1 s1 er s' I1 hq
  | ok fl =>
    cases fl with
    | ret u => exact I1.after hq
    | next => exact False.elim hq
    | brk => exact False.elim hq
    | cont => exact False.elim hq
end
end MD
set_option Elab.async false
set_option linter.all false
set_option maxRecDepth 100000
set_option maxHeartbeats 2000000
namespace MD
open PySem PySem.Spec PyProof.Rows L2
variable {ww : WW}
noncomputable abbrev TX := Addr → Value → Option Addr → TS
/-- the ends of a suite whose name in slot i goes -/
noncomputable def offE (i : Nat) (D : Ends) : Ends := { nx := fun σ' H' => D.nx (σ'.set i none) H', rt := D.rt, bk := fun σ' H' => D.bk (σ'.set i none) H', ct := fun σ' H' => D.ct (σ'.set i none) H' }
theorem takesNo {X : Cx} : Takes X (fun _ _ _ _ => False) := fun _ _ ⟨_, _, _, _, _, _, _, _, _, _, _, _, _, _, _, _, w⟩ => w.elim
noncomputable def tByX (C : Addr) (f : Str) (a : Addr) (cls : Value) (d : Option Addr) (te : TE) : TE := fun σ H Q => te σ H fun x H1 => x = .ref a ∧ cls = .ref C ∧ ∃ (dd : Addr) (v : V), d = some dd ∧ H1 dd = some (.xd [(f, v)]) ∧ Q v H1
section
variable {X : Cx} {c f : Str} {C a : Addr} {oe : Obj} {cls : Value} {d : Option Addr} {pn : List (Addr × Obj)} {e : Expr} {te : TE} {pos : Pos}
theorem pe_byX (T : XCls X.prog X.w X.K X.mg X.base c f C) (hz : Zc cls d oe) (hf : ∃ vs, oe.data = .fields vs) (he : PE (X.suite a ((a, oe) :: pn)) e te)
    (hb : attributeBase e f X.env (eval e X.env) = eval e X.env := by rfl) :
    PE (X.suite a ((a, oe) :: pn)) (.Attribute e f pos) (tByX C f a cls d te) := by
  refine ⟨fun pins s σ H Q I h => ?_⟩
  refine attr_of hb (thn (he.run pins s σ H _ I h) fun u s1 hh => ?_)
  obtain ⟨x, H1, I1, rx, ex, ec, dd, v, ed, ea, q⟩ := hh
  subst ex
  obtain rfl : u = Value.ref a := rx
  subst ec
  subst ed
  obtain ⟨ha, _⟩ := I1.pin (a, oe) (List.mem_append_left _ List.mem_cons_self)
  obtain ⟨vs, hd⟩ := hf
  have hx : ObjOk X.prog X.w H1 s1.heap dd (.xd [(f, v)]) := I1.hok dd _ ea
  obtain ⟨mA, hns, hr⟩ := hx
  obtain ⟨od, ho, hl⟩ := lookIn_ns hns
  have l : List.lookup f [(f, v)] = some v := by simp [List.lookup]
  obtain ⟨u, hu, ru⟩ := RelO.some_of (v := v) (o := mA f) (by rw [← l]; exact hr f)
  have J : PySem.W.InstAt s1.heap a oe C (some od) := ⟨ha, hz.1, by unfold PySem.W.notCls; rw [hd] <;> rfl, by rw [hz.2]; exact ho⟩
  exact HandSPX.exc_get I1.kIn J T.ga T.gg T.o.exC (PySem.W.findObj_own T.hd T.no rfl (by rw [hl, hu])) (handed_of ru) ⟨v, H1, I1.tok _, ru, q⟩
end
section
variable {K : Fg} {dk : Dk} {F F0 : Fz} {H H0 : Hp} {σ : L2.St} {env : Sg} {st : S}
theorem Good.unset {i : Nat} {y : Option V} (g : Good K dk H0 F0 F σ H env st) : Good K dk H0 F0 F (σ.set i y) H (env.set i .un) st :=
  g.reslot (by rw [List.length_set, List.length_set]; exact g.len) fun j s e => by
    by_cases hj : i = j
    · subst hj
      by_cases hl : i < env.length
      · rw [List.getElem?_set_self hl] at e; cases e; exact .inl rfl
      · rw [List.getElem?_eq_none (by rw [List.length_set]; omega)] at e; cases e
    · rw [List.getElem?_set_ne hj] at e
      exact .inr ⟨e, List.getElem?_set_ne hj⟩
end
noncomputable def CalX (P : Program) (w : World) (K : Fg) (mg : Str → Option Value) (base : Heap) (k : Nat) (x : Str) (ps : List Str) (sp : Sp) : Prop :=
  ∃ f fd, FnX P w K mg base k f fd ps sp ∧ mg x = some (.ref f) ∧ PySem.W.keepIn K (.ref f) = true ∧ Binds K fd ps []
section
variable {X : Cx} {j k : Nat} {ps : List Str} {sp : Sp} {x : Str} {p pos : Pos} {e : Expr} {es : List Expr} {t : TA} {E : L2.St → XK}
theorem pe_callXC (C : CalX X.prog X.w X.K X.mg X.base j x ps sp) (hr : Room k X.A) (gd : X.A.guards = some []) (hg : Gl X x) (hx : ∀ σ, PassesAt (L2.CX X.prog X.w) X σ (E σ)) (ha : PA X (e :: es) t) (hj : j ≤ k := by decide) (hdb : (x == ("__debug__" : Str)) = false := by decide)
    (he : starEach (e :: es) X.env = (false, eval e X.env) :: starEach es X.env := by rfl) (hpl : (backTo pos (starEach es X.env)).any (·.1) = false := by rfl) :
    PE X (.Call (.Name x p) (e :: es) [] pos) (tCallS sp E t) := by
  obtain ⟨f, fd, F, hm, hk, hb⟩ := C
  exact pe_callX F (hr.mono hj) gd hg hm hk hb hx ha hdb he hpl
end
theorem exm_of {K : Fg} {S T : Addr} {b : Bool} (h1 : PySem.W.subIn K (.ref T) (.type "BaseException") = some true) (h2 : PySem.W.isClsIn K T = true) (h3 : PySem.W.typeIn K (.ref T) = some (.type "type")) (h4 : PySem.W.subIn K (.ref S) (.ref T) = some b) : PySem.W.exmOne K (.ref S) (.ref T) = some b := by
  have h2' : (PySem.W.clsIn K T).isSome = true := h2
  unfold PySem.W.exmOne
  rw [h1, if_pos (by rfl)]
  show PySem.W.kitCls K (.ref S) (.ref T) = some b
  unfold PySem.W.kitCls
  dsimp only
  rw [h2', h3, if_pos (by simp)]
  exact h4
theorem oexC_mk {K : Fg} {C U : Addr} {nm q : Str} {N : Addr} {bs : List Value} {sn : List Str} {sub : List Value} {ab : Bool} {col : Option Bool} {dd : Option Addr} {m0 m1 m2 m3 m5 : Option Value}
    (xL : K.lookup C = some (excClassObj nm q C N bs [.ref U, .type "ValueError", .type "Exception", .type "BaseException", .type "object"] true sn sub ab col dd m0 m1 m2 m3 m5 "ValueError.__new__"))
    (sa : PySem.W.findIn K (.ref C) "__setattr__" = some (some (.builtin "object.__setattr__"))) (eC : PySem.W.subIn K (.ref C) (.type "BaseException") = some true) (tC : PySem.W.typeIn K (.ref C) = some (.type "type")) (kC : PySem.W.keepIn K (.ref C) = true) : OexC K C :=
  ⟨⟨nm, q, N, bs, _, sn, sub, ab, col, dd, m0, m1, m2, m3, m5, xL, by show PySem.HandSPX.refsVE PySem.HandSPX.veTail = true; decide +kernel⟩, sa, eC, tC, kC⟩
theorem fnE_len {C : Addr} {f : Str} {a b : Str} : ∀ vs H Q E, spEI C f vs H Q E → vs.length = [a, b].length := fun vs H Q E h => by
  obtain ⟨_, _, rfl, _⟩ := h; rfl
end MD
set_option Elab.async false
set_option linter.all false
set_option maxRecDepth 100000
set_option maxHeartbeats 2000000
namespace MD
open PySem PySem.Spec PyProof.Rows L2
variable {ww : WW}
noncomputable abbrev MEX := Sg → S → Option (Rx × S)
inductive Ax where
  | ok (ds : List D) | xc (c f : Str) (d : D)
noncomputable abbrev MAX := Sg → S → Option (Ax × S)
theorem Xw.mono {K : Fg} {mg : Str → Option Value} {dk : Dk} {H H1 : Hp} {F F1 : Fz} {st : S} {c f : Str} {d : D} {E : XK} (h : Xw K mg dk H F st c f d E) (x : Ext dk F H F1 H1) : Xw K mg dk H1 F1 st c f d E :=
  fun C dx v F' H' hm y w r e => h C dx v F' H' hm (x.trans y) w r e
noncomputable def ImEX [WW] (K : Fg) (mg : Str → Option Value) (W : WX) (te : TE) (f : MEX) : Prop := ∀ (dk : Dk) (H0 : Hp) (F0 F : Fz) (σ : L2.St) (H : Hp) (env : Sg) (st : S) (r : Rx) (st' : S), Good K dk H0 F0 F σ H env st → f env st = some (r, st') → ∀ Q : VK,
  (match r with
    | .ok d => ∀ v F' H', Ext dk F H F' H' → Good K dk H0 F0 F' σ H' env st' → Rp K dk F' v d → Q v H'
    | .xc c g d => Xw K mg dk H F st' c g d (WE W σ)) → te σ H Q
noncomputable def ImAX [WW] (K : Fg) (mg : Str → Option Value) (W : WX) (ta : TA) (f : MAX) : Prop := ∀ (dk : Dk) (H0 : Hp) (F0 F : Fz) (σ : L2.St) (H : Hp) (env : Sg) (st : S) (r : Ax) (st' : S), Good K dk H0 F0 F σ H env st → f env st = some (r, st') → ∀ Q : List V → Hp → Prop,
  (match r with
    | .ok ds => ∀ vs F' H', Ext dk F H F' H' → Good K dk H0 F0 F' σ H' env st' → Rps K dk F' vs ds → Q vs H'
    | .xc c g d => Xw K mg dk H F st' c g d (WE W σ)) → ta σ H Q
section
variable {K : Fg} {mg : Str → Option Value} {W : WX}
noncomputable def puX (f : ME) : MEX := fun env st => (f env st).map fun p => (.ok p.1, p.2)
theorem ix_pu {te : TE} {f : ME} (h : Im K te f) : ImEX K mg W te (puX f) := fun dk H0 F0 F σ H env st r st' g e Q q => by
  obtain ⟨⟨d, s1⟩, e1, e⟩ := mpd e
  cases e
  exact h dk H0 F0 F σ H env st d s1 g e1 Q q
noncomputable def puA (f : MA) : MAX := fun env st => (f env st).map fun p => (.ok p.1, p.2)
theorem iax_pu {ta : TA} {f : MA} (h : ImA K ta f) : ImAX K mg W ta (puA f) := fun dk H0 F0 F σ H env st r st' g e Q q => by
  obtain ⟨⟨d, s1⟩, e1, e⟩ := mpd e
  cases e
  exact h dk H0 F0 F σ H env st d s1 g e1 Q q
noncomputable def consX (f : MEX) (a : MAX) : MAX := fun env st => (f env st).bind fun p => match p.1 with
  | .ok d => (a env p.2).map fun q => match q.1 with
    | .ok ds => (.ok (d :: ds), q.2)
    | .xc c g x => (.xc c g x, q.2)
  | .xc c g x => some (.xc c g x, p.2)
theorem iax_cons {te : TE} {ta : TA} {f : MEX} {a : MAX} (h : ImEX K mg W te f) (hr : ImAX K mg W ta a) : ImAX K mg W (tCons te ta) (consX f a) := fun dk H0 F0 F σ H env st r st' g e Q q => by
  obtain ⟨⟨x, s1⟩, h1, e⟩ := bnd e
  cases x with
  | xc c f d =>
    cases e
    exact h dk H0 F0 F σ H env st _ s1 g h1 _ q
  | ok d =>
    obtain ⟨⟨xs, s2⟩, h2, e⟩ := mpd e
    refine h dk H0 F0 F σ H env st _ s1 g h1 _ fun v F1 H1 x1 g1 r1 => ?_
    cases xs with
    | ok ds =>
      cases e
      exact hr dk H0 F0 F1 σ H1 env s1 _ s2 g1 h2 _ fun vs F2 H2 x2 g2 r2 => q (v :: vs) F2 H2 (x1.trans x2) g2 (.cons (r1.mono x2.f) r2)
    | xc c f d =>
      cases e
      exact hr dk H0 F0 F1 σ H1 env s1 _ s2 g1 h2 _ (Xw.mono q x1)
/-- a def that raises -/
noncomputable def callX (m : MFX) (a : MAX) : MEX := fun env st => (a env st).bind fun p => match p.1 with
  | .ok ds => m ds p.2
  | .xc c g x => some (.xc c g x, p.2)
theorem ix_call {n : Nat} {m : MFX} {ta : TA} {a : MAX} (ha : ImAX K mg W ta a) (hn : ∀ env st ds s, a env st = some (.ok ds, s) → ds.length = n) : ImEX K mg W (tCallS (spX K mg n m) (WE W) ta) (callX m a) := fun dk H0 F0 F σ H env st r st' g e Q q => by
  obtain ⟨⟨x, s1⟩, h1, e⟩ := bnd e
  cases x with
  | xc c f d =>
    cases e
    exact ha dk H0 F0 F σ H env st _ s1 g h1 _ q
  | ok ds =>
    refine ha dk H0 F0 F σ H env st _ s1 g h1 _ fun vs F1 H1 x1 g1 r1 => ?_
    refine ⟨r1.length.trans (hn _ _ _ _ h1), dk, F1, ds, s1, r, st', g1.wd, r1, e, ?_⟩
    cases r with
    | ok d => exact fun v F' H' x w r => q v F' H' (x1.trans x) (g1.step x w) r
    | xc c f d => exact Xw.mono q x1
/-- o.m(..) that raises -/
noncomputable def tMethS (C : Addr) (m : Str) (sp : Sp) (E : L2.St → XK) (ta : TE) (t : TA) : TE := fun σ H Q => ta σ H fun x H1 => ∃ a dx fs, x = .ref a ∧ H1 a = some (.ins C dx fs) ∧ fs.lookup m = none ∧
  t σ H1 fun vs H2 => sp (x :: vs) H2 Q (E σ)
noncomputable def metX (c m : Str) (mf : MFX) (fo : ME) (a : MAX) : MEX := fun env st => (fo env st).bind fun p => (refOf p.1).bind fun n => (insAt [c] p.2 n).bind fun z => if m ∉ z.2.1 then (a env p.2).bind fun q => match q.1 with
  | .ok ds => mf (p.1 :: ds) q.2
  | .xc c g x => some (.xc c g x, q.2)
  else none
theorem ix_meth {c m : Str} {C : Addr} {n : Nat} {mf : MFX} {to : TE} {ta : TA} {fo : ME} {a : MAX} (hC : clsOf K c = some C) (ho : Im K to fo) (ha : ImAX K mg W ta a) (hn : ∀ env st ds s, a env st = some (.ok ds, s) → ds.length = n) : ImEX K mg W (tMethS C m (spX K mg (n + 1) mf) (WE W) to ta) (metX c m mf fo a) := fun dk H0 F0 F σ H env st r st' g e Q q => by
  obtain ⟨⟨x, s1⟩, e1, e⟩ := bnd e
  obtain ⟨j, e2, e⟩ := bnd e
  obtain ⟨z, e3, e⟩ := bnd e
  split at e
  · rename_i hm
    obtain ⟨⟨y, s2⟩, e4, e⟩ := bnd e
    refine ho dk H0 F0 F σ H env st x s1 g e1 _ fun v F1 H1 x1 g1 r1 => ?_
    have hx : x = .ref j := refOf_eq e2
    subst hx
    obtain ⟨b, rfl, hb⟩ := r1.refn
    obtain ⟨C', dx, vs, h1, h2, h3, h4⟩ := g1.wd.insAt hb e3
    have hz : z.1 = c := List.mem_singleton.mp (insAt_eq e3).2
    rw [hz, hC] at h1
    cases h1
    refine ⟨b, dx, _, rfl, h2, look_none hm, ?_⟩
    cases y with
    | xc c f d =>
      cases e
      exact ha dk H0 F0 F1 σ H1 env s1 _ s2 g1 e4 _ (Xw.mono q x1)
    | ok ds =>
      refine ha dk H0 F0 F1 σ H1 env s1 _ s2 g1 e4 _ fun us F2 H2 x2 g2 r2 => ?_
      refine ⟨by rw [List.length_cons, r2.length.trans (hn _ _ _ _ e4)], dk, F2, .ref j :: ds, s2, r, st', g2.wd, .cons (r1.mono x2.f) r2, e, ?_⟩
      cases r with
      | ok d => exact fun v F' H' x w r => q v F' H' ((x1.trans x2).trans x) (g2.step x w) r
      | xc c f d => exact Xw.mono q (x1.trans x2)
  · cases e
/-- o.m(..) that does not raise, its arguments may -/
noncomputable def metDX (c m : Str) (mf : MF) (fo : ME) (a : MAX) : MEX := fun env st => (fo env st).bind fun p => (refOf p.1).bind fun n => (insAt [c] p.2 n).bind fun z => if m ∉ z.2.1 then (a env p.2).bind fun q => match q.1 with
  | .ok ds => (mf (p.1 :: ds) q.2).map fun r => (.ok r.1, r.2)
  | .xc c g x => some (.xc c g x, q.2)
  else none
theorem ix_methD {c m : Str} {C : Addr} {n : Nat} {mf : MF} {to : TE} {ta : TA} {fo : ME} {a : MAX} {E : XK} (hC : clsOf K c = some C) (ho : Im K to fo) (ha : ImAX K mg W ta a) (hn : ∀ env st ds s, a env st = some (.ok ds, s) → ds.length = n) : ImEX K mg W (tMeth C m (spD K (n + 1) mf) [] E to ta) (metDX c m mf fo a) := fun dk H0 F0 F σ H env st r st' g e Q q => by
  obtain ⟨⟨x, s1⟩, e1, e⟩ := bnd e
  obtain ⟨j, e2, e⟩ := bnd e
  obtain ⟨z, e3, e⟩ := bnd e
  split at e
  · rename_i hm
    obtain ⟨⟨y, s2⟩, e4, e⟩ := bnd e
    refine ho dk H0 F0 F σ H env st x s1 g e1 _ fun v F1 H1 x1 g1 r1 => ?_
    have hx : x = .ref j := refOf_eq e2
    subst hx
    obtain ⟨b, rfl, hb⟩ := r1.refn
    obtain ⟨C', dx, vs, h1, h2, h3, h4⟩ := g1.wd.insAt hb e3
    have hz : z.1 = c := List.mem_singleton.mp (insAt_eq e3).2
    rw [hz, hC] at h1
    cases h1
    refine ⟨b, dx, _, rfl, h2, look_none hm, ?_⟩
    cases y with
    | xc c f d =>
      cases e
      exact ha dk H0 F0 F1 σ H1 env s1 _ s2 g1 e4 _ (Xw.mono q x1)
    | ok ds =>
      obtain ⟨⟨d, s3⟩, e5, e⟩ := mpd e
      cases e
      refine ha dk H0 F0 F1 σ H1 env s1 _ s2 g1 e4 _ fun us F2 H2 x2 g2 r2 => ?_
      rw [List.append_nil]
      exact ⟨by rw [List.length_cons, r2.length.trans (hn _ _ _ _ e4)], dk, F2, .ref j :: ds, s2, d, s3, g2.wd, .cons (r1.mono x2.f) r2, e5, fun v F' H' x w r => q v F' H' ((x1.trans x2).trans x) (g2.step x w) r⟩
  · cases e
/-- f if c else h -/
noncomputable def ifEX (c : MT) (f h : MEX) : MEX := fun env st => (c env st).bind fun p => if p.1 then f env p.2 else h env p.2
theorem ix_if {t : TT} {ta tb : TE} {c : MT} {f h : MEX} (h0 : ImT K t c) (h1 : ImEX K mg W ta f) (h2 : ImEX K mg W tb h) : ImEX K mg W (tIf t ta tb) (ifEX c f h) := fun dk H0 F0 F σ H env st r st' g e Q q => by
  obtain ⟨⟨x, s1⟩, e1, e⟩ := bnd e
  refine h0 dk H0 F0 F σ H env st x s1 g e1 _ fun F1 H1 x1 g1 => ?_
  cases r with
  | ok d =>
    cases x with
    | true => exact h1 dk H0 F0 F1 σ H1 env s1 _ st' g1 e Q fun v F2 H2 x2 g2 r2 => q v F2 H2 (x1.trans x2) g2 r2
    | false => exact h2 dk H0 F0 F1 σ H1 env s1 _ st' g1 e Q fun v F2 H2 x2 g2 r2 => q v F2 H2 (x1.trans x2) g2 r2
  | xc c g d =>
    cases x with
    | true => exact h1 dk H0 F0 F1 σ H1 env s1 _ st' g1 e Q (Xw.mono q x1)
    | false => exact h2 dk H0 F0 F1 σ H1 env s1 _ st' g1 e Q (Xw.mono q x1)
theorem anx_pu {f : MA} {n : Nat} (h : ∀ env st p, f env st = some p → p.1.length = n) : ∀ env st ds s, puA f env st = some (.ok ds, s) → ds.length = n := fun env st ds s e => by
  obtain ⟨⟨d, s1⟩, e1, e⟩ := mpd e
  cases e
  exact h _ _ _ e1
theorem anx_cons {f : MEX} {a : MAX} {n : Nat} (h : ∀ env st ds s, a env st = some (.ok ds, s) → ds.length = n) : ∀ env st ds s, consX f a env st = some (.ok ds, s) → ds.length = n + 1 := fun env st ds s e => by
  obtain ⟨⟨x, s1⟩, h1, e⟩ := bnd e
  cases x with
  | xc c f d => cases e
  | ok d =>
    obtain ⟨⟨xs, s2⟩, h2, e⟩ := mpd e
    cases xs with
    | ok ds => cases e; simp [h _ _ _ _ h2]
    | xc c f d => cases e
end
section
variable {K : Fg} {mg : Str → Option Value} {W : XK}
noncomputable def retX (f : MEX) : MSX := fun env st => (f env st).map fun p => match p.1 with
  | .ok d => (.fl (.rt d), p.2)
  | .xc c g x => (.xc c g x, p.2)
theorem isx_ret {te : TE} {f : MEX} (h : ImEX K mg (fun cls d _ H => W cls d H) te f) : ImSX K mg W (tRet te) (retX f) := fun dk H0 F0 F σ H env st r st' g e E hd => by
  obtain ⟨⟨x, s1⟩, e1, e⟩ := mpd e
  cases x with
  | ok d =>
    cases e
    exact h dk H0 F0 F σ H env st _ s1 g e1 _ fun v F1 H1 x1 g1 r1 => hd v F1 H1 g1.ext g1.wd r1
  | xc c f d =>
    cases e
    exact h dk H0 F0 F σ H env st _ s1 g e1 _ (Xw.mono hd g.ext)
noncomputable def asgX (t : MG) (f : MEX) : MSX := fun env st => (f env st).bind fun p => match p.1 with
  | .ok d => (t d env).map fun e => (.fl (.nx e), p.2)
  | .xc c g x => some (.xc c g x, p.2)
theorem isx_asg {te : TE} {g : TG} {t : MG} {f : MEX} {is : List Nat} (h : ImEX K mg (fun cls d _ H => W cls d H) te f) (hg : ImG K g t is) : ImSX K mg W (tAsg te g) (asgX t f) := fun dk H0 F0 F σ H env st r st' gd e E hd => by
  obtain ⟨⟨x, s1⟩, e1, e⟩ := bnd e
  cases x with
  | ok d =>
    obtain ⟨en, e2, e⟩ := mpd e
    cases e
    refine h dk H0 F0 F σ H env st _ s1 gd e1 _ fun v F1 H1 x1 g1 r1 => ?_
    exact hg dk H0 F0 F1 σ H1 env s1 v d en g1 r1 e2 _ fun σ' g2 _ => hd F1 σ' H1 x1.f g2
  | xc c f d =>
    cases e
    exact h dk H0 F0 F σ H env st _ s1 gd e1 _ (Xw.mono hd gd.ext)
noncomputable def drpX (f : MEX) : MSX := fun env st => (f env st).map fun p => match p.1 with
  | .ok _ => (.fl (.nx env), p.2)
  | .xc c g x => (.xc c g x, p.2)
theorem isx_drop {te : TE} {f : MEX} (h : ImEX K mg (fun cls d _ H => W cls d H) te f) : ImSX K mg W (tDrop te) (drpX f) := fun dk H0 F0 F σ H env st r st' g e E hd => by
  obtain ⟨⟨x, s1⟩, e1, e⟩ := mpd e
  cases x with
  | ok d =>
    cases e
    exact h dk H0 F0 F σ H env st _ s1 g e1 _ fun v F1 H1 x1 g1 r1 => hd F1 σ H1 x1.f g1
  | xc c f d =>
    cases e
    exact h dk H0 F0 F σ H env st _ s1 g e1 _ (Xw.mono hd g.ext)
end
section
variable {X : Cx} {j k : Nat} {f : Addr} {fd : FuncData} {ps : List Str} {sp : Sp} {c m : Str} {C : Addr} {p pos apos : Pos} {e o : Expr} {es : List Expr} {ta : TE} {t : TA} {E : L2.St → XK}
theorem runX_ok {pins : List (Addr × Obj)} {σ : L2.St} {H : Hp} {s : Shared} {Q : VK} {us : List Value} {vs : List V} {E : XK} (F : FnX X.prog X.w X.K X.mg X.base k f fd ps sp) (hr : Room k X.A) (gd : X.A.guards = some []) (hb : Binds X.K fd ps []) (hx : PassesAt (L2.CX X.prog X.w) X σ E)
    (I : L2.Inv X pins σ H s) (r : Vals vs us) (q : sp vs H Q E) : wpAny (model X.prog X.w) X.A (call (.ref f) us) (EP X pins σ Q) X.xe s := by
  have hl : us.length = ps.length := r.length.symm.trans (F.len _ _ _ _ q)
  have bb := hb s us I.kIn (by rw [List.append_nil]; exact hl)
  rw [List.append_nil] at bb
  refine wpAny_call (codeAny_mono (F.run X.A X.stack s H ⟨us, []⟩ us vs Q E hr gd I.env0 bb r q) fun rr s' hq => ?_)
  cases rr with
  | error er => exact hx pins H s er s' I hq
  | ok fl =>
    cases fl with
    | ret u => exact I.after hq
    | next => exact False.elim hq
    | brk => exact False.elim hq
    | cont => exact False.elim hq
theorem pe_methX {pl : Sem Bool} (he : PE X o ta) (c : Cls X.K C) (hm : Meth X.K C m f) (F : FnX X.prog X.w X.K X.mg X.base k f fd ps sp) (hr : Room k X.A) (gd : X.A.guards = some []) (hb : Binds X.K fd ps []) (hx : ∀ σ, PassesAt (L2.CX X.prog X.w) X σ (E σ)) (ha : PA X (e :: es) t)
    (hst : starEach (e :: es) X.env = (false, eval e X.env) :: starEach es X.env := by rfl) (hpl : (backTo pos (starEach es X.env)).any (·.1) = false := by rfl)
    (ht : eval (.Call (.Attribute o m apos) (e :: es) [] pos) X.env = (do
      let ov ← eval o X.env
      standAt apos.atName
      let (f, first) ← holding [ov] (getMethod ov m pl)
      callWith pos f first (backTo pos (starEach (e :: es) X.env)) (backToKw pos (keywordEach [] X.env))) := by rfl) :
    PE X (.Call (.Attribute o m apos) (e :: es) [] pos) (tMethS C m sp E ta t) := by
  refine ⟨fun pins s σ H Q I h => ?_⟩
  refine PySem.W.methodCall_KW (pl := pl) (thn (he.run pins s σ H _ I h) fun u s1 ⟨x, H1, I1, rx, a, dx, fs, ex, ea, l, q⟩ => ?_) ht
  subst ex
  obtain rfl : u = Value.ref a := rx
  refine getmeth_ok I1 ea c hm l ?_
  refine PySem.W.callWith_K (first := [.ref a]) (h₀ := X.base) I.ok.mod.kin hm.kp (thn (ha.run pos pins s1 σ H1 _ I1 q) fun us s2 ⟨vs, H2, I2, r, q2⟩ => ⟨I2.kIn, ?_⟩) hst hpl
  exact runX_ok (us := .ref a :: us) (vs := .ref a :: vs) F hr gd hb (hx σ) I2 (.cons rfl r) q2
theorem pe_methX0 {pl : Sem Bool} (he : PE X o ta) (c : Cls X.K C) (hm : Meth X.K C m f) (F : FnX X.prog X.w X.K X.mg X.base k f fd ps sp) (hr : Room k X.A) (gd : X.A.guards = some []) (hb : Binds X.K fd ps []) (hx : ∀ σ, PassesAt (L2.CX X.prog X.w) X σ (E σ))
    (ht : eval (.Call (.Attribute o m apos) [] [] pos) X.env = (do
      let ov ← eval o X.env
      standAt apos.atName
      let (f, first) ← holding [ov] (getMethod ov m pl)
      callWith pos f first (backTo pos (starEach [] X.env)) (backToKw pos (keywordEach [] X.env))) := by rfl) :
    PE X (.Call (.Attribute o m apos) [] [] pos) (tMethS C m sp E ta tNil) := by
  refine ⟨fun pins s σ H Q I h => ?_⟩
  refine PySem.W.methodCall_KW (pl := pl) (thn (he.run pins s σ H _ I h) fun u s1 ⟨x, H1, I1, rx, a, dx, fs, ex, ea, l, q⟩ => ?_) ht
  subst ex
  obtain rfl : u = Value.ref a := rx
  refine getmeth_ok I1 ea c hm l ?_
  exact PySem.W.callWith_K0 (first := [.ref a]) I1.kIn hm.kp (runX_ok (us := [.ref a]) (vs := [.ref a]) F hr gd hb (hx σ) I1 (.cons rfl .nil) q)
noncomputable def CalMX (P : Program) (w : World) (K : Fg) (mg : Str → Option Value) (base : Heap) (k : Nat) (c m : Str) (ps : List Str) (sp : Sp) : Prop :=
  ∃ C : Addr, clsOf K c = some C ∧ Cls K C ∧ ∃ f fd, FnX P w K mg base k f fd ps sp ∧ Meth K C m f ∧ Binds K fd ps []
theorem pe_methXC {pl : Sem Bool} (M : CalMX X.prog X.w X.K X.mg X.base j c m ps sp) (hr : Room k X.A) (gd : X.A.guards = some []) (hx : ∀ σ, PassesAt (L2.CX X.prog X.w) X σ (E σ)) (he : PE X o ta) (ha : PA X (e :: es) t) (hj : j ≤ k := by decide)
    (hst : starEach (e :: es) X.env = (false, eval e X.env) :: starEach es X.env := by rfl) (hpl : (backTo pos (starEach es X.env)).any (·.1) = false := by rfl)
    (ht : eval (.Call (.Attribute o m apos) (e :: es) [] pos) X.env = (do
      let ov ← eval o X.env
      standAt apos.atName
      let (f, first) ← holding [ov] (getMethod ov m pl)
      callWith pos f first (backTo pos (starEach (e :: es) X.env)) (backToKw pos (keywordEach [] X.env))) := by rfl) :
    PE X (.Call (.Attribute o m apos) (e :: es) [] pos) (tMethS M.choose m sp E ta t) := by
  obtain ⟨_, cl, f, fd, F, hm, hb⟩ := M.choose_spec
  exact pe_methX he cl hm F (hr.mono hj) gd hb hx ha hst hpl ht
theorem pe_methXC0 {pl : Sem Bool} (M : CalMX X.prog X.w X.K X.mg X.base j c m ps sp) (hr : Room k X.A) (gd : X.A.guards = some []) (hx : ∀ σ, PassesAt (L2.CX X.prog X.w) X σ (E σ)) (he : PE X o ta) (hj : j ≤ k := by decide)
    (ht : eval (.Call (.Attribute o m apos) [] [] pos) X.env = (do
      let ov ← eval o X.env
      standAt apos.atName
      let (f, first) ← holding [ov] (getMethod ov m pl)
      callWith pos f first (backTo pos (starEach [] X.env)) (backToKw pos (keywordEach [] X.env))) := by rfl) :
    PE X (.Call (.Attribute o m apos) [] [] pos) (tMethS M.choose m sp E ta tNil) := by
  obtain ⟨_, cl, f, fd, F, hm, hb⟩ := M.choose_spec
  exact pe_methX0 he cl hm F (hr.mono hj) gd hb hx ht
end
section
variable {P : Program} {w : World} {K : Fg} {mg mg' : Str → Option Value} {base : Heap} {j n : Nat} {c m : Str} {ps : List Str} {W : WX} {to : TE} {ta : TA} {fo : ME} {a : MAX}
theorem ix_methC {mf : MFX} (C : CalMX P w K mg base j c m ps (spX K mg' (n + 1) mf)) (ho : Im K to fo) (ha : ImAX K mg' W ta a) (hn : ∀ env st ds s, a env st = some (.ok ds, s) → ds.length = n) : ImEX K mg' W (tMethS C.choose m (spX K mg' (n + 1) mf) (WE W) to ta) (metX c m mf fo a) := ix_meth C.choose_spec.1 ho ha hn
theorem ix_methDC {mf : MF} {E : XK} (C : CalM P w K mg base j c m ps (spD K (n + 1) mf)) (ho : Im K to fo) (ha : ImAX K mg' W ta a) (hn : ∀ env st ds s, a env st = some (.ok ds, s) → ds.length = n) : ImEX K mg' W (tMeth C.choose m (spD K (n + 1) mf) [] E to ta) (metDX c m mf fo a) := ix_methD C.choose_spec.1 ho ha hn
end
end MD
set_option Elab.async false
set_option linter.all false
set_option maxRecDepth 100000
set_option maxHeartbeats 2000000
namespace MD
open PySem PySem.Spec PyProof.Rows L2
open PySem.Builtin PySem.Builtin.ObjectAttr
variable {ww : WW}
noncomputable abbrev leT : List Value := [.type "LookupError", .type "Exception", .type "BaseException", .type "object"]
structure OlxC (K : Fg) (C : Addr) : Prop where
  cls : ∃ nm q N bs sn sub ab col dd k0 k1 k2 k3 k5, K.lookup C = some (excClassObj nm q C N bs leT true sn sub ab col dd k0 k1 k2 k3 k5 "LookupError.__new__")
  sa : PySem.W.findIn K (.ref C) "__setattr__" = some (some (.builtin "object.__setattr__"))
  exC : PySem.W.subIn K (.ref C) (.type "BaseException") = some true
  tyC : PySem.W.typeIn K (.ref C) = some (.type "type")
  kC : PySem.W.keepIn K (.ref C) = true
section
variable {prog : Program} {w : World} {A : Around} {R : Result → Shared → Prop} {hp : Heap} {g : Array GenState} {d : Drawn} {t : Nat} {os : OsState}
/-- object.__setattr__ lays the first field of such an exception -/
theorem le_set {K : Fg} {name : Str} {tk : Tok} {v : Value} {x C : Addr} {fv : Array Value} {cd : ClassData}
    (X : K.In hp) (hx : hp.get? x = some { cls := .ref C, data := .fields fv }) (hcd : PySem.W.clsIn K C = some cd) (hm : cd.mro = .ref C :: leT) (hh : cd.hasDict = true) (ha : PySem.W.findIn K (.ref C) name = some none)
    (hq : ∀ h' tk' dx, (∀ b o, b ≠ x → hp.get? b = some o → h'.get? b = some o) → hp.objs.size ≤ dx → dx ≠ x → h'.get? x = some { cls := .ref C, dict := some dx, data := .fields fv } →
      h'.Ns1 dx (fun y => if y = name then some v else none) → R (.ok (.ret .none)) ⟨h', g, d, tk', os⟩) :
    codeAny (model prog w) A (.call (.builtin "object.__setattr__") ⟨[.ref x, .str name tk, v], []⟩) R ⟨hp, g, d, t, os⟩ := by
  have SF := PySem.F.store_object
  have I : PySem.W.InstAt hp x { cls := .ref C, data := .fields fv } C none := ⟨hx, rfl, rfl, trivial⟩
  have hmo : PySem.W.mroIn K C (.type "object") = some true := by
    unfold PySem.W.mroIn
    rw [hcd, Option.bind_some, hm]
    rfl
  have xs : x ≠ hp.objs.size := Nat.ne_of_lt (Heap.lt_size hx)
  have lc : PySem.W.Looks (model prog w) hp (classData C) cd := PySem.W.looks_clsIn X hcd
  have lm : PySem.W.Looks (model prog w) hp (mroOf (.ref C)) cd.mro := (PySem.W.looks_clsIn X hcd).andThen .now
  have ln : PySem.W.Looks (model prog w) hp (storeTaker? none) none := .now
  refine codeAny_call_builtin SF.slot.plain SF.entry (@PySem.W.check_slot (model prog w) _ _ ⟨hp, g, d, t, os⟩ "object.__setattr__" "object" "__setattr__" (.ref x) [.str name tk, v] [] _ SF.kind SF.split (I.type.andThen (PySem.W.looks_mroIn X hmo)) (SF.args (.ref x) (.str name tk) v) ?_)
  rw [PySem.W.osa_eq, refuse_eq]
  refine wpAny_bind (wpAny_bind (I.type.at (wpAny_bind (lm.at ?_))))
  rw [hm, refuseLoop_ref, PySem.F.store_LookupError.passes (.ref x)]
  refine wpAny_pure (wpAny_bind (I.type.at (wpAny_bind ((PySem.W.looks_findIn X ha).at (wpAny_bind (ln.at ?_))))))
  show wpAny _ _ (storeInOwnDict (.ref x) (.ref C) (.str name tk) name v false) _ _ _
  obtain ⟨nm, bs, mro, ns, qn, hd, sn, sb, ab, col, del⟩ := cd
  dsimp only at hh
  subst hh
  unfold storeInOwnDict ownDictForStores
  repeat (first | with_reducible refine PySem.HandSPX.store_in_new ?_ ?_ | with_reducible refine wpAny_loadPart_at hx ?_ | with_reducible refine lc.at ?_ | wp_step)
  · exact ⟨_, #[], _, (Heap.get?_update_ne _ _ _ _ xs.symm).trans (Heap.get?_push_at rfl rfl), rfl, fun e he => absurd he (by simp), fun _ => rfl⟩
  · intro h' tk' hn hs
    have hx1 : (hp.push { cls := .type "dict", data := .dict #[] }).get? x = some { cls := .ref C, data := .fields fv } := Heap.get?_push_of_some _ hx
    refine hq h' tk' hp.objs.size (fun b o hb ho => ?_) (Nat.le_refl _) xs.symm ?_ hn
    · exact (hs.2 b (Nat.ne_of_lt (Heap.lt_size ho))).trans ((Heap.get?_update_ne _ _ _ _ hb).trans (Heap.get?_push_of_some _ ho))
    · exact (hs.2 x xs).trans (Heap.get?_update_self _ hx1 rfl)
end
theorem le_ct (Y : String) : leT.contains (.type Y) = leT.contains (.type Y) := rfl
section
variable {X : Cx} {pins : List (Addr × Obj)} {σ : L2.St} {H : Hp} {s : Shared} {a C dx : Addr} {f : Str} {y : V} {u : Value} {fs : List (Str × V)} {E : Value → Shared → Prop} {A : Around}
theorem le_new {Q : Unit → Shared → Prop} (T : OlxC X.K C) (I : L2.Inv X pins σ H s) (e : H a = some (exo a C none)) (hno : PySem.W.findIn X.K (.ref C) f = some none) (ry : RelV y u)
    (h : ∀ dx s', H dx = none → dx ≠ a → L2.Inv X pins σ (upd (upd H dx (exd dx [(f, y)])) a (exo a C (some dx))) s' → Q () s') : wpAny (model X.prog X.w) A (setAttr (.ref a) f u) Q E s := by
  obtain ⟨nm, q, N, bs, sn, sub, ab, col, dd, k0, k1, k2, k3, k5, hC⟩ := T.cls
  have hcl : PySem.W.clsIn X.K C = some { name := nm, bases := bs, mro := .ref C :: leT, ns := N, qualname := q, hasDict := true, slotNames := sn, subclasses := sub, abstract := ab, collection := col, hasDel := false } := by unfold PySem.W.clsIn; rw [hC] <;> rfl
  obtain ⟨t1, ho⟩ := exo_at I.hok e
  obtain ⟨hp, g, d, t, os⟩ := s
  refine PySem.W.set_plain I.kIn (ox := { cls := .ref C, dict := none, data := .fields #[.ref t1, .none, .none, .none, .bool false, .none] }) (od := none) ⟨ho, rfl, rfl, trivial⟩ T.sa ?_
  refine le_set I.kIn ho hcl rfl rfl hno (fun h' tk' dx k dn dne hx hn => ?_)
  have hnd : H dx = none := I.hok.fresh dn
  have nd : ∀ {b : Addr} {o : Obj}, hp.get? b = some o → b ≠ dx := fun {b o} q => Nat.ne_of_lt (Nat.lt_of_lt_of_le (Heap.lt_size q) dn)
  have na : ∀ {b : Addr}, H b = none → b ≠ a := fun {b} n z => by rw [z, e] at n; cases n
  have Un1 : Un X.fs [] H (upd (upd H dx (exd dx [(f, y)])) a (exo a C (some dx))) hp h' := {
    keep := fun b o q n _ _ => k b o (na n) q
    slot := fun b o q n _ _ => ⟨o.slots, k b o (na n) q⟩
    free := fun b o q n _ => by rw [upd_ne (na n), upd_ne (nd q)]; exact n
    there := fun b o q _ => by
      by_cases hb : b = a
      · subst hb; exact ⟨_, hx⟩
      · exact ⟨o, k b o hb q⟩
    tups := fun b xs q => by rw [upd_ne (L2.at_ne e q exo_tup), upd_ne (ne_of_none q hnd)]; exact q
    frzs := fun b o v q => by rw [upd_ne (L2.at_ne e q exo_frz), upd_ne (ne_of_none q hnd)]; exact q
    tbls := fun b ps q => ⟨#[], by rw [upd_ne (L2.at_ne e q exo_tbl), upd_ne (ne_of_none q hnd), q]; simp⟩ }
  refine h dx _ hnd dne (I.un (t' := tk') Un1 fun b o q => ?_)
  by_cases hb : b = a
  · subst hb
    rw [upd_same] at q
    cases q
    exact exo_ok hx
  · rw [upd_ne hb] at q
    by_cases hd : b = dx
    · subst hd
      rw [upd_same] at q
      cases q
      exact exd_ok hn (relO_put (fs := []) ry fun g => True.intro)
    · rw [upd_ne hd] at q
      refine (I.hok b o q).stay (fun c v hc z => k c v ?_ z) (fun c hc => by rw [upd_ne (L2.at_ne e hc exo_own), upd_ne (ne_of_none hc hnd)]; exact hc) (fun c xs hc => by rw [upd_ne (L2.at_ne e hc exo_tup), upd_ne (ne_of_none hc hnd)]; exact hc)
      rcases hc with hc | hc
      · rw [hc]; exact hb
      · exact L2.at_ne e hc exo_own
theorem le_init {us : List Value} {Q : Value → Shared → Prop} (T : OlxC X.K C) (I : L2.Inv X pins σ H s) (e : H a = some (exo a C none)) (hl : us.length ≤ sizeLine) (h : ∀ s', L2.Inv X pins σ H s' → Q .none s') :
    wpAny (model X.prog X.w) A (call (.builtin "LookupError.__init__") (.ref a :: us)) Q E s := by
  obtain ⟨nm, q, N, bs, sn, sub, ab, col, dd, k0, k1, k2, k3, k5, hC⟩ := T.cls
  obtain ⟨t1, ho⟩ := exo_at I.hok e
  obtain ⟨hp, g, d, t, os⟩ := s
  refine wpAny_call (PySem.HandSPX.init_base PySem.F.excBase_LookupError le_ct (I.kIn _ _ hC) ho hl fun h' t2 k hx => ?_)
  have J := I.write (t' := t) (x := a) (e := a) (o := exo a C none) (by rw [e]; exact True.intro) (.inl rfl) k ⟨_, hx⟩ (exo_ok hx)
  have eu : upd H a (exo a C none) = H := funext fun b => by
    by_cases hb : b = a
    · rw [hb, upd_same, e]
    · rw [upd_ne hb]
  rw [eu] at J
  exact h _ J
end
/-- LookupError.__init__(self, ..) -/
noncomputable def tLeI (K : Fg) (ta : TA) : TE := fun σ H Q => ta σ H fun vs H1 => ∃ (a C : Addr) (ws : List V), vs = .ref a :: ws ∧ ws.length ≤ 1000 ∧ OlxC K C ∧ H1 a = some (exo a C none) ∧ Q .non H1
/-- self.f = e, the first field -/
noncomputable def tLst1 (K : Fg) (f : Str) (to te : TE) : TS := fun D σ H => te σ H fun y H1 => to σ H1 fun x H2 => ∃ a C : Addr, x = .ref a ∧ OlxC K C ∧ PySem.W.findIn K (.ref C) f = some none ∧
  H2 a = some (exo a C none) ∧ ∀ dx, H2 dx = none → dx ≠ a → D.nx σ (upd (upd H2 dx (exd dx [(f, y)])) a (exo a C (some dx)))
theorem typ_LE : typeOf (.type "LookupError") = pure (.type "type") := by kernel_rfl
section
variable {X : Cx} {o e : Expr} {es : List Expr} {to te : TE} {ta : TA} {f c : Str} {p p' p1 p2 pos : Pos}
theorem pe_leinit {pl : Sem Bool} (hg : Gl X "LookupError") (hm : X.mg "LookupError" = none) (vV : PySem.W.findCls X.K (.type "LookupError") (.type "type") "__init__" = some (.val (.builtin "LookupError.__init__"))) (ha : PA X (e :: es) ta)
    (hc : eval (.Call (.Attribute (.Name "LookupError" p1) "__init__" p2) (e :: es) [] pos) X.env = (do
      let ov ← eval (.Name "LookupError" p1) X.env
      standAt p2.atName
      let (f, first) ← holding [ov] (getMethod ov "__init__" pl)
      callWith pos f first (backTo pos (starEach (e :: es) X.env)) (backToKw pos (keywordEach [] X.env))) := by rfl)
    (he : starEach (e :: es) X.env = (false, eval e X.env) :: starEach es X.env := by rfl) (hpl : (backTo pos (starEach es X.env)).any (·.1) = false := by rfl) :
    PE X (.Call (.Attribute (.Name "LookupError" p1) "__init__" p2) (e :: es) [] pos) (tLeI X.K ta) := by
  refine ⟨fun pins s σ H Q I h => ?_⟩
  refine PySem.W.methodCall_KW (ld_blt I hg hm PyProof.Rows.Boot.«LookupError» ?_ (by decide) (by decide)) hc
  obtain ⟨m, fr⟩ := I.fr
  refine PySem.W.method_type fr I.ok.mod.kin typ_LE (by decide +kernel) vV (by decide +kernel) ?_
  show wpAny _ _ (callWith pos (Value.builtin "LookupError.__init__") [] (backTo pos (starEach (e :: es) X.env)) []) _ _ _
  refine PyProof.Rows.callWith_method1 (thn (ha.run pos pins _ σ H _ (I.tok _) h) fun us s1 ⟨vs, H1, I1, r1, a, C, ws, ev, hl, T, ea, q⟩ => ?_) he hpl
  subst ev
  cases r1 with
  | @cons _ u0 _ ur ra rw' =>
    obtain rfl : u0 = Value.ref a := ra
    refine le_init T I1 ea ?_ fun s' J => ⟨.non, H1, J, rfl, q⟩
    rw [← Paired.length rw', sizeLine_eq]
    omega
theorem ps_ole (ho : PE X o to) (he : PE X e te) (hs : swapsWith e (some (.Attribute o f p')) pos.line X.env = pure false := by rfl) : PS X (.Assign [.Attribute o f p'] e pos) (tLst1 X.K f to te) := by
  refine ⟨fun pins s σ H D I h => ?_⟩
  refine plainObj_wpAny_Assign_Attribute (thn (he.run pins s σ H _ I h) fun v s1 ⟨y, H1, I1, r1, q1⟩ => thn (ho.run pins s1 σ H1 _ I1 q1) fun u s2 ⟨x, H2, I2, r2, a, C, ex, T, hno, ea, q⟩ => ?_) hs
  subst ex
  obtain rfl : u = Value.ref a := r2
  exact le_new T I2 ea hno r1 fun dx s' n ne J => ⟨σ, _, J, q dx n ne⟩
theorem pmk_ole {CX : CXT} {x : Str} {C fI : Addr} {k : Nat} {fd : FuncData} {ps : List Str} {sp : Sp} (T : OlxC X.K C) (iC : PySem.W.findIn X.K (.ref C) "__init__" = some (some (.ref fI))) (tI : PySem.W.typeIn X.K (.ref fI) = some (.type "function"))
    (F1 : FnOk X.prog X.w X.K X.mg X.base CX k fI fd ps sp) (hr : Room (k + 1) X.A) (hb : Binds X.K fd ps []) (hx : Passes CX X (fun _ _ _ => False)) (hg : Gl X x) (hm : X.mg x = some (.ref C)) (ha : PA X (e :: es) ta)
    (hdb : (x == ("__debug__" : Str)) = false := by decide) (he : starEach (e :: es) X.env = (false, eval e X.env) :: starEach es X.env := by rfl) (hpl : (backTo pos (starEach es X.env)).any (·.1) = false := by rfl) :
    PMk X (.Call (.Name x p) (e :: es) [] pos) (tMkO C sp [] ta) := by
  intro pins s σ H Q I h
  obtain ⟨nm, q, N, bs, sn, sub, ab, col, dd, k0, k1, k2, k3, k5, hC⟩ := T.cls
  refine wpAny_Call_Name_kw (ld_glob I hg hm ?_ hdb)
  refine PySem.W.callWith_K (h₀ := X.base) I.ok.mod.kin T.kC (thn (ha.run pos pins s σ H _ I h) fun us s1 ⟨vs, H1, I1, r1, hz, q1⟩ => ⟨I1.kIn, ?_⟩) he hpl
  obtain ⟨hp, g, dr, tk, os⟩ := s1
  obtain ⟨n, hn0⟩ : ∃ n, n = hp.objs.size + 1 := ⟨_, rfl⟩
  have hsz : hp.objs.size ≤ n := by omega
  have hq := q1 n (I1.hok.fresh hsz)
  rw [List.append_nil] at hq
  obtain ⟨h2, hh2⟩ : ∃ h2, h2 = (hp.push (PySem.W.kdv_tup us)).push (PySem.HandSPX.excO C hp.objs.size) := ⟨_, rfl⟩
  have kk : ∀ b o, hp.get? b = some o → h2.get? b = some o := fun b o e => by rw [hh2]; exact Heap.get?_push_of_some _ (Heap.get?_push_of_some _ e)
  have hget : h2.get? n = some (PySem.HandSPX.excO C hp.objs.size) := by rw [hh2, hn0]; heap_get
  have I2 : L2.Inv X pins σ (upd H1 n (exo n C none)) ⟨h2, g, dr, tk, os⟩ := I1.laid (t' := tk) (a := n) (o := exo n C none) (h' := h2) kk hsz (exo_ok hget)
  have r2 : Vals (V.ref n :: vs) (Value.ref n :: us) := .cons rfl r1
  have hl : (Value.ref n :: us).length = ps.length := r2.length.symm.trans (F1.len _ _ _ _ hq)
  have hus : us.length ≤ sizeLine := by
    rw [← Paired.length r1, sizeLine_eq]
    omega
  have bb := hb ⟨h2, g, dr, tk, os⟩ (Value.ref n :: us) I2.kIn (by rw [List.append_nil]; exact hl)
  rw [List.append_nil] at bb
  subst hn0 hh2
  refine wpAny_call (PySem.HandSPX.call_own PySem.F.excBase_LookupError le_ct (I1.kIn _ _ hC) (PySem.W.looks_findIn I1.kIn iC) (fun self => PySem.W.bind_fn I1.kIn self tI) hus
    (codeAny_mono (F1.run _ X.stack _ _ ⟨Value.ref (hp.objs.size + 1) :: us, []⟩ (Value.ref (hp.objs.size + 1) :: us) _ _ (fun _ _ _ => False) (hr.make C us []) (I2.env0.make C us []) bb r2 hq) fun r s' hq' => ?_))
  cases r with
  | error er => exact hx pins σ _ _ er s' I2 hq'
  | ok fl =>
    cases fl with
    | ret u =>
      obtain ⟨v, H2, os2, bare2, un2, hok2, rv, ev, d, fs, ea, ed, hd1, q2⟩ := hq'
      subst ev
      obtain ⟨h2, g2, d2, t2, os'⟩ := s'
      exact ⟨rv, mk_end (raises_own T.exC T.tyC) I1 hsz kk un2 hok2 os2 bare2 ea ed hd1 q2⟩
    | next => exact False.elim hq'
    | brk => exact False.elim hq'
    | cont => exact False.elim hq'
end
/-- LookupError.__init__(self, text); self.f = y -/
theorem exc_initL {K : Fg} {C : Addr} {f : Str} (T : OlxC K C) (hno : PySem.W.findIn K (.ref C) f = some none) {txt : Str} (vs : List V) (H : Hp) (Q : VK) (E : XK) (h : spEI C f vs H Q E) (N : List Str) (hN : N.length = 2) :
    tSeq (tDrop (tLeI K (tCons (tVar 0) (tCons (tC (.str txt)) tNil)))) (tLst1 K f (tVar 0) (tVar 1)) { nx := fun _ H' => Q .non H', rt := Q } (L2.start N vs) H := by
  obtain ⟨a, y, rfl, ha, q⟩ := h
  have h0 : (L2.start N [.ref a, y])[0]? = some (some (.ref a)) := rfl
  have h1 : (L2.start N [.ref a, y])[1]? = some (some y) := rfl
  refine ⟨_, h0, a, C, _, rfl, by simp, T, ha, ?_⟩
  exact ⟨_, h1, _, h0, a, C, rfl, T, hno, ha, fun dx hd hn => q dx hd hn⟩
structure XClsL (P : Program) (w : World) (K : Fg) (mg : Str → Option Value) (base : Heap) (c f : Str) (C : Addr) : Prop where
  g : mg c = some (.ref C)
  o : OlxC K C
  ga : PySem.W.findIn K (.ref C) "__getattribute__" = some (some (.builtin "BaseException.__getattribute__"))
  gg : PySem.W.findIn K (.ref C) "__getattr__" = some none
  no : PySem.W.findIn K (.ref C) f = some none
  hd : PySem.W.hasDictIn K C = true
  ini : ∃ fI fd pn, PySem.W.findIn K (.ref C) "__init__" = some (some (.ref fI)) ∧ PySem.W.typeIn K (.ref fI) = some (.type "function") ∧ FnOk P w K mg base CX0 1 fI fd ["self", pn] (spEI C f) ∧ Binds K fd ["self", pn] []
section
variable {X : Cx} {c f : Str} {C : Addr}
theorem ps_raiseL {W : WX} {e : Expr} {te : TE} {p pos pos2 : Pos} (hc : X.calm = true) (T : XClsL X.prog X.w X.K X.mg X.base c f C) (hr : Room 2 X.A) (tk : Takes X W) (ha : PA X [e] (tCons te tNil)) (hg : Gl X c := by rfl) (hdb : (c == ("__debug__" : Str)) = false := by decide)
    (he : starEach (e :: []) X.env = (false, eval e X.env) :: starEach [] X.env := by rfl) (hpl : (backTo pos (starEach [] X.env)).any (·.1) = false := by rfl) :
    PS X (.Raise (some (.Call (.Name c p) [e] [] pos)) none pos2) (tRaiseX C f W te) := by
  obtain ⟨fI, fd, pn, i1, i2, i3, i4⟩ := T.ini
  exact ps_raise hc tk (pmk_ole T.o i1 i2 i3 hr i4 (fun _ _ _ _ _ _ _ h => h.elim) hg T.g ha hdb he hpl)
theorem pe_byL {a : Addr} {oe : Obj} {cls : Value} {d : Option Addr} {pn : List (Addr × Obj)} {e : Expr} {te : TE} {pos : Pos} (T : XClsL X.prog X.w X.K X.mg X.base c f C) (hz : Zc cls d oe) (hf : ∃ vs, oe.data = .fields vs) (he : PE (X.suite a ((a, oe) :: pn)) e te)
    (hb : attributeBase e f X.env (eval e X.env) = eval e X.env := by rfl) :
    PE (X.suite a ((a, oe) :: pn)) (.Attribute e f pos) (tByX C f a cls d te) := by
  refine ⟨fun pins s σ H Q I h => ?_⟩
  refine attr_of hb (thn (he.run pins s σ H _ I h) fun u s1 hh => ?_)
  obtain ⟨x, H1, I1, rx, ex, ec, dd, v, ed, ea, q⟩ := hh
  subst ex ec ed
  obtain rfl : u = Value.ref a := rx
  obtain ⟨ha, _⟩ := I1.pin (a, oe) (List.mem_append_left _ List.mem_cons_self)
  obtain ⟨vs, hd⟩ := hf
  have hx : ObjOk X.prog X.w H1 s1.heap dd (.xd [(f, v)]) := I1.hok dd _ ea
  obtain ⟨mA, hns, hr⟩ := hx
  obtain ⟨od, ho, hl⟩ := lookIn_ns hns
  obtain ⟨u, hu, ru⟩ := RelO.some_of (v := v) (o := mA f) (by rw [← show List.lookup f [(f, v)] = some v by simp [List.lookup]]; exact hr f)
  have J : PySem.W.InstAt s1.heap a oe C (some od) := ⟨ha, hz.1, by unfold PySem.W.notCls; rw [hd] <;> rfl, by rw [hz.2]; exact ho⟩
  exact PySem.HandSPX.exc_get I1.kIn J T.ga T.gg T.o.exC (PySem.W.findObj_own T.hd T.no rfl (by rw [hl, hu])) (handed_of ru) ⟨v, H1, I1.tok _, ru, q⟩
end
theorem olxC_mk {K : Fg} {C : Addr} {nm q : Str} {N : Addr} {bs : List Value} {sn : List Str} {sub : List Value} {ab : Bool} {col : Option Bool} {dd : Option Addr} {m0 m1 m2 m3 m5 : Option Value}
    (xL : K.lookup C = some (excClassObj nm q C N bs leT true sn sub ab col dd m0 m1 m2 m3 m5 "LookupError.__new__"))
    (sa : PySem.W.findIn K (.ref C) "__setattr__" = some (some (.builtin "object.__setattr__"))) (eC : PySem.W.subIn K (.ref C) (.type "BaseException") = some true) (tC : PySem.W.typeIn K (.ref C) = some (.type "type")) (kC : PySem.W.keepIn K (.ref C) = true) : OlxC K C :=
  ⟨⟨nm, q, N, bs, sn, sub, ab, col, dd, m0, m1, m2, m3, m5, xL⟩, sa, eC, tC, kC⟩
end MD
set_option Elab.async false
set_option linter.all false
set_option maxRecDepth 100000
set_option maxHeartbeats 2000000
namespace MD
open PySem PySem.Spec PyProof.Rows L2
variable {ww : WW}
section
variable {prog : Program} {w : World} {A : Around} {E : Value → Shared → Prop} {s : Shared} {K : Fg} {x C f : Addr} {ox : Obj} {od : Option Obj}
theorem len_k {Q : Value → Shared → Prop} (X : K.In s.heap) (I : PySem.W.InstAt s.heap x ox C od) (hs : PySem.W.findIn K (.ref C) "__len__" = some (some (.ref f))) (hf : PySem.W.isFn K (.ref f) = true)
    (h : wpAny (model prog w) A.in1 (call (.ref f) [.ref x]) (fun r s1 => ∃ n u, r = Value.int n u ∧ 0 ≤ n ∧ n < 2 ^ 63 ∧ Q (.int n s1.toks) { s1 with toks := s1.toks + 1 }) E s) :
    wpAny (model prog w) A (call (.builtin "len") [.ref x]) Q E s := by
  refine Calls.call_function_entry kind_len plain_len entry_len (args_len1 _) ?_
  unfold Builtin.«len»
  refine wpAny_bind (m := oneArg "len" _) (wpAny_pure ?_)
  refine wpAny_bind (m := callSpecial? (.ref x) (Str.ofString "__len__")) (PySem.W.special_fn X I hs (beq_iff_eq.mp hf) (wpAny_mono h (fun r s1 hr => ?_) fun _ _ y => y))
  obtain ⟨n, u, rfl, n0, n1, hq⟩ := hr
  refine wpAny_bind (wpAny_holding (wpAny_pure (wpAny_bind (wpAny_letGo ?_))))
  show wpAny _ _ (if n < 0 then _ else _) _ _ _
  rw [if_neg (by omega)]
  show wpAny _ _ (if n ≥ 2 ^ 63 then _ else _) _ _ _
  rw [if_neg (by omega)]
  exact wpAny_bind (wpAny_mkInt (wpAny_pure ⟨_, rfl, hq⟩))
end
noncomputable def rLenO (C : Addr) (sp : Sp) : List V → Hp → VK → Prop := fun xs H Q => ∃ a dx fs, xs = [V.ref a] ∧ H a = some (.ins C dx fs) ∧ sp [.ref a] H (fun z H' => ∃ i : Int, z = .int i ∧ 0 ≤ i ∧ i < 2 ^ 63 ∧ Q z H') E0
section
variable {X : Cx} {k j : Nat} {f : Addr} {fd : FuncData} {ps : List Str} {sp : Sp} {C : Addr}
theorem call_lenO (m : Meth X.K C "__len__" f) (F : FnG X.prog X.w X.K X.mg X.base k f fd ps sp) (hr : Room (k + 1) X.A) (gd : X.A.guards = some []) (hb : Binds X.K fd ps []) : CallR X (.builtin "len") (rLenO C sp) := by
  intro pins s σ H xs us Q I r h
  obtain ⟨a, dx, fs, rfl, ea, q⟩ := h
  obtain ⟨u, rfl, ru⟩ := r.one
  cases (show u = Value.ref a from ru)
  obtain ⟨mA, O, _, _, _, _⟩ := ins_get I.hok ea
  obtain ⟨od, J, _⟩ := O.look
  have bb := hb s [.ref a] I.kIn (by rw [List.append_nil]; exact F.len _ _ _ _ q)
  rw [List.append_nil] at bb
  refine len_k I.kIn J m.at_ m.fn (wpAny_call (codeAny_mono (F.run X.A.in1 X.stack s H ⟨[.ref a], []⟩ [.ref a] [.ref a] _ E0 (Room.in1 hr) gd I.env0.in1 bb (.cons rfl .nil) q) fun rr s' hq => ?_))
  cases rr with
  | error er => exact False.elim hq
  | ok fl =>
    cases fl with
    | ret u =>
      have z := I.after hq
      obtain ⟨z', H', I', rz, i, ei, i0, i1, qz⟩ := z
      subst ei
      obtain ⟨t, e⟩ := (show ∃ t, u = Value.int i t from rz)
      cases e
      exact ⟨i, t, rfl, i0, i1, .int i, H', I'.tok _, ⟨_, rfl⟩, qz⟩
    | next => exact False.elim hq
    | brk => exact False.elim hq
    | cont => exact False.elim hq
theorem call_lenOC {c : Str} (M : CalM X.prog X.w X.K X.mg X.base j c "__len__" ps sp) (hr : Room k X.A) (gd : X.A.guards = some []) (hj : j + 1 ≤ k := by decide) : CallR X (.builtin "len") (rLenO M.choose sp) := by
  obtain ⟨_, _, f, fd, F, hm, hb⟩ := M.choose_spec
  exact call_lenO hm F (hr.mono hj) gd hb
end
section
variable {P : Program} {w : World} {K : Fg} {mg : Str → Option Value} {base : Heap} {j : Nat} {c : Str} {ps : List Str}
noncomputable def lenOM (c : Str) (mf : MF) (fo : ME) : ME := fun env st => (fo env st).bind fun p => (refOf p.1).bind fun n => (insAt [c] p.2 n).bind fun z => (mf [p.1] p.2).bind fun q => match q.1 with
  | .int i => if 0 ≤ i ∧ i < 2 ^ 63 then some q else none
  | _ => none
theorem im_lenO {c : Str} {C : Addr} {mf : MF} {to : TE} {fo : ME} (hC : clsOf K c = some C) (ho : Im K to fo) : Im K (tCB (rLenO C (spD K 1 mf)) (tCons to tNil)) (lenOM c mf fo) := fun dk H0 F0 F σ H env st d st' g e Q q => by
  obtain ⟨⟨x, s1⟩, e1, f1⟩ := bnd e
  obtain ⟨n, e2, f2⟩ := bnd f1
  obtain ⟨z, e3, f3⟩ := bnd f2
  obtain ⟨⟨y, s2⟩, e4, f4⟩ := bnd f3
  clear e f1 f2 f3
  refine ho dk H0 F0 F σ H env st x s1 g e1 _ fun v F1 H1 x1 g1 r1 => ?_
  have hx : x = .ref n := refOf_eq e2
  subst hx
  obtain ⟨b, rfl, hb⟩ := r1.refn
  obtain ⟨C', dx, vs, h1, h2, h3, h4⟩ := g1.wd.insAt hb e3
  have hz : z.1 = c := List.mem_singleton.mp (insAt_eq e3).2
  rw [hz, hC] at h1
  cases h1
  dsimp only at f4
  split at f4
  · rename_i i
    split at f4
    · rename_i hr
      cases f4
      refine ⟨b, dx, _, rfl, h2, rfl, dk, F1, [.ref n], s1, .int i, _, g1.wd, .cons r1 .nil, e4, fun v F' H' x w r => ?_⟩
      cases r
      exact ⟨i, rfl, hr.1, hr.2, q _ F' H' (x1.trans x) (g1.step x w) (.int i)⟩
    · cases f4
  · cases f4
theorem im_lenOC {mf : MF} {to : TE} {fo : ME} (C : CalM P w K mg base j c "__len__" ps (spD K 1 mf)) (ho : Im K to fo) : Im K (tCB (rLenO C.choose (spD K 1 mf)) (tCons to tNil)) (lenOM c mf fo) := im_lenO C.choose_spec.1 ho
end
end MD
set_option Elab.async false
set_option linter.all false
set_option maxRecDepth 100000
set_option maxHeartbeats 2000000
namespace MD
open PySem PySem.Spec PyProof.Rows L2
variable {ww : WW}
structure FunV (K : Fg) (x qual : Str) (st : Stmt) (d : Nat) (f : Addr) (fd : FuncData) : Prop where
  ex : ∃ (oc : Value) (od : Option Addr) (dV kV doc pm : Value) (an : Option Addr) (cdv ct : Value) (osl : Array (Option Value)),
    fd = PySem.W.fnOf x qual (defArgs st) (defBody st) (defScope st) dV kV doc pm an cdv ct ∧ K.lookup f = some ⟨oc, od, .func fd, osl⟩ ∧ PySem.W.codeIn K cdv qual = true ∧
      ∃ (T : Addr) (o : Obj) (its : List Value) (n : Nat), dV = .ref T ∧ K.lookup T = some o ∧ o.data = .seq its.toArray n ∧ its.length = d
  kp : PySem.W.keepIn K (.ref f) = true
theorem funV_mk {K : Fg} {x qual : Str} {st : Stmt} {f T : Addr} {oc : Value} {od an : Option Addr} {osl : Array (Option Value)} {kV doc pm cdv ct : Value} (l : K.lookup f = some ⟨oc, od, .func (PySem.W.fnOf x qual (defArgs st) (defBody st) (defScope st) (.ref T) kV doc pm an cdv ct), osl⟩)
    (c : PySem.W.codeIn K cdv qual = true) (k : PySem.W.keepIn K (.ref f) = true) {o : Obj} {its : List Value} {n : Nat} (lT : K.lookup T = some o) (oT : o.data = .seq its.toArray n) : FunV K x qual st its.length f (PySem.W.fnOf x qual (defArgs st) (defBody st) (defScope st) (.ref T) kV doc pm an cdv ct) :=
  ⟨⟨oc, od, _, kV, doc, pm, an, cdv, ct, osl, rfl, l, c, T, o, its, n, rfl, lT, oT, rfl⟩, k⟩
theorem FunV.binds {K : Fg} {x qual : Str} {st : Stmt} {d : Nat} {f : Addr} {fd : FuncData} {ps : List Str} (F : FunV K x qual st d f fd)
    (h : ∀ (T : Addr) (kV doc pm : Value) (an : Option Addr) (cdv ct : Value) (us its : List Value), us.length = ps.length → its.length = d →
      ∃ k, bindArgs (PySem.W.fnOf x qual (defArgs st) (defBody st) (defScope st) (.ref T) kV doc pm an cdv ct) ⟨us, []⟩ = seqItems? (.ref T) >>= k ∧ k (some its.toArray) = pure (ps.zip us)) : Binds K fd ps [] := by
  obtain ⟨oc, od, dV, kV, doc, pm, an, cdv, ct, osl, rfl, lk, hcd, T, o, its, n, rfl, lT, oT, hd⟩ := F.ex
  intro s us X hl
  rw [List.append_nil] at hl ⊢
  obtain ⟨k, e1, e2⟩ := h T kV doc pm an cdv ct us its hl hd
  refine BindsTo.of_looks fun M => ?_
  rw [e1]
  exact L2.looks_items X lT oT (.of_pure e2)
/-- a def of the text by its body -/
theorem fnGV_of {P : Program} {w : World} {K : Fg} {mg : Str → Option Value} {base : Heap} {x qual : Str} {st : Stmt} {f : Addr} {fd : FuncData} {N ps : List Str} {k : Nat} {sp : Sp} {nd : Nat} (Fn : FunV K x qual st nd f fd) (S : FnScope N ps (defScope st))
    (len : ∀ vs H Q E, sp vs H Q E → vs.length = ps.length)
    (hbody : ∀ (cdv : Value) (A : Around) (outer : List Env) (s : Shared) (H : Hp) (vs : List V) (Q : VK) (E : XK), Room k (A.deeper (envOfC qual (defScope st) s.heap.objs.size f cdv)) → (A.deeper (envOfC qual (defScope st) s.heap.objs.size f cdv)).guards = some [] → sp vs H Q E →
      ∃ t, PSs (cxOf CX0 P w K mg base N qual (defScope st) f cdv A outer s H E).nox (defBody st) t ∧ t { nx := fun _ H' => Q .non H', rt := Q } (L2.start N vs) H) : FnG P w K mg base (k + 1) f fd ps sp := by
  refine ⟨len, fun A outer s H args us vs Q E hr gd e0 hb r hsp => ?_⟩
  -- the promise, asked only where no repr is running
  let sp' : Sp := fun vs' H' Q' E' => sp vs' H' Q' E'
  obtain ⟨oc, od, dV, kV, doc, pm, an, cdv, ct, osl, rfl, lk, hcd, _⟩ := Fn.ex
  have hl := len _ _ _ _ hsp
  have KX : K.In s.heap := e0.mod.kin.keeps fun b o e => (e0.bs b o e).1
  have lim : s.heap.NoLimit := e0.mod.nolimit.keeps fun b o e => (e0.bs b o e).1
  have hkind : ∀ y ∈ ps.zip us, (defScope st).names.lookup y.1 = some .local ∨ ((defScope st).names.lookup y.1 = some .cell ∧ ((cellsFrom (s.heap.objs.size + 1) (defScope st).names []).lookup y.1).isSome = true) := by
    rintro ⟨n, v⟩ hy
    rcases S.par n (List.of_mem_zip hy).1 with q | q
    · exact .inl q
    · exact .inr ⟨q, PySem.W.cellsFrom_some _ _ _ (.inl q)⟩
  refine codeAny_call_function hr.depth (KX _ _ lk) rfl S.co S.gen rfl (PySem.W.codeRec_of KX hcd) (hb _ _ _ _ ?_)
  refine wpAny_newFunctionEnv_cells S.kind hkind fun env he s1 y => ?_
  subst he
  refine ⟨lim.keeps y.toInCall.keep, codeAny_func ?_⟩
  obtain ⟨t, ht, hq⟩ := hbody cdv A outer s H vs Q E (hr.deeper _) (guards_deeper _ gd) hsp
  have I := inv_start (CX := CX0) (E := E) (qual := qual) (f := f) (cd := cdv) S hr.hd e0 hl r y
  refine wpAny_mono ((ht.nox).run [] s1 (L2.start N vs) H _ I hq) (fun fl s' hs => ?_) fun er s' hs => hs
  cases fl with
  | ret u =>
    obtain ⟨v, σ', H', J, rv, q⟩ := hs
    exact ⟨v, H', J.os, J.bare, J.base, J.hok, rv, q⟩
  | next =>
    obtain ⟨σ', H', J, q⟩ := hs
    exact ⟨V.non, H', J.os, J.bare, J.base, J.hok, rfl, q⟩
  | brk =>
    obtain ⟨_, _, _, q⟩ := hs
    exact False.elim q
  | cont =>
    obtain ⟨_, _, _, q⟩ := hs
    exact False.elim q
section
variable {K : Fg}
theorem fnDV {P : Program} {w : World} {mg : Str → Option Value} {base : Heap} {x qual : Str} {st : Stmt} {f : Addr} {fd : FuncData} {N ps : List Str} {k : Nat} {b : MS} {nd : Nat} (Fn : FunV K x qual st nd f fd) (S : FnScope N ps (defScope st)) (hN : ps.length ≤ N.length)
    (hbody : ∀ (cdv : Value) (A : Around) (outer : List Env) (s : Shared) (H : Hp) (E : XK), Room k (A.deeper (envOfC qual (defScope st) s.heap.objs.size f cdv)) → (A.deeper (envOfC qual (defScope st) s.heap.objs.size f cdv)).guards = some [] →
      ∃ t, PSs (cxOf CX0 P w K mg base N qual (defScope st) f cdv A outer s H E).nox (defBody st) t ∧ ImS K t b) : FnG P w K mg base (k + 1) f fd ps (spD K ps.length (runM N.length b)) := by
  refine fnGV_of Fn S (fun vs H Q E h => h.1) fun cdv A outer s H vs Q E hr gd h => ?_
  obtain ⟨hlv, dk, F, ds, s0, d, s1, wd, r, e, q⟩ := h
  obtain ⟨t, h1, h2⟩ := hbody cdv A outer s H E hr gd
  refine ⟨t, h1, ?_⟩
  obtain ⟨⟨fl, s2⟩, e1, e⟩ := bnd e
  refine h2 dk H F F (L2.start N vs) H _ s0 fl s2 (good_start wd r (by rw [hlv]; exact hN)) e1 _ ?_
  cases fl with
  | rt d' => cases e; exact fun v F' H' x w r => q v F' H' x w r
  | nx en => cases e; exact fun F' σ' H' le g => q .non F' H' g.ext g.wd .non
  | bk en => cases e
  | ct en => cases e
end
theorem calMX_mk {P : Program} {w : World} {K : Fg} {mg : Str → Option Value} {base : Heap} {k : Nat} {c m : Str} {ps : List Str} {sp : Sp} {C f : Addr} {fd : FuncData} (h : PySem.W.nsIn K mainGlobals c = some (some (.ref C))) (cl : Cls K C) (F : FnX P w K mg base k f fd ps sp) (M : Meth K C m f) (b : Binds K fd ps []) : CalMX P w K mg base k c m ps sp :=
  ⟨C, by unfold clsOf; rw [h], cl, f, fd, F, M, b⟩
section
variable {P : List Value → Prop} {us : List Value}
theorem len1 (h : us.length = 1) (k : ∀ a, P [a]) : P us := by
  obtain ⟨a, rfl⟩ := List.length_eq_one_iff.mp h
  exact k a
theorem lenS {n : Nat} (h : us.length = n + 1) (k : ∀ a r, r.length = n → P (a :: r)) : P us := by
  cases us with
  | nil => cases h
  | cons a r => exact k a r (by simpa using h)
theorem len2 (h : us.length = 2) (k : ∀ a b, P [a, b]) : P us := lenS h fun a r h => len1 (P := fun r => P (a :: r)) h fun b => k a b
theorem len3 (h : us.length = 3) (k : ∀ a b c, P [a, b, c]) : P us := lenS h fun a r h => len2 (P := fun r => P (a :: r)) h fun b c => k a b c
theorem len4 (h : us.length = 4) (k : ∀ a b c d, P [a, b, c, d]) : P us := lenS h fun a r h => len3 (P := fun r => P (a :: r)) h fun b c d => k a b c d
end
theorem bnd1 {fd : FuncData} {ps : List Str} {us : List Value} (h : us.length = 1) (k : ∀ a, bindArgs fd ⟨[a], []⟩ = pure (ps.zip [a])) : bindArgs fd ⟨us, []⟩ = pure (ps.zip us) := len1 (P := fun us => bindArgs fd ⟨us, []⟩ = pure (ps.zip us)) h k
theorem bnd2 {fd : FuncData} {ps : List Str} {us : List Value} (h : us.length = 2) (k : ∀ a b, bindArgs fd ⟨[a, b], []⟩ = pure (ps.zip [a, b])) : bindArgs fd ⟨us, []⟩ = pure (ps.zip us) := len2 (P := fun us => bindArgs fd ⟨us, []⟩ = pure (ps.zip us)) h k
theorem bnd3 {fd : FuncData} {ps : List Str} {us : List Value} (h : us.length = 3) (k : ∀ a b c, bindArgs fd ⟨[a, b, c], []⟩ = pure (ps.zip [a, b, c])) : bindArgs fd ⟨us, []⟩ = pure (ps.zip us) := len3 (P := fun us => bindArgs fd ⟨us, []⟩ = pure (ps.zip us)) h k
theorem bnd4 {fd : FuncData} {ps : List Str} {us : List Value} (h : us.length = 4) (k : ∀ a b c d, bindArgs fd ⟨[a, b, c, d], []⟩ = pure (ps.zip [a, b, c, d])) : bindArgs fd ⟨us, []⟩ = pure (ps.zip us) := len4 (P := fun us => bindArgs fd ⟨us, []⟩ = pure (ps.zip us)) h k
end MD
set_option Elab.async false
set_option linter.all false
set_option maxRecDepth 100000
set_option maxHeartbeats 2000000
namespace MD
open PySem PySem.Spec PyProof.Rows L2
end MD
set_option Elab.async false
set_option linter.all false
set_option maxRecDepth 100000
set_option maxHeartbeats 2000000
namespace MD
open PySem PySem.Spec PyProof.Rows L2
variable {ww : WW}
/-- self, the lambda, the def's other names, the captured data last -/
noncomputable def envL (N : Nat) (d : D) (cds : List D) : Sg := .val d :: .cap none :: (List.replicate (N - 3) Sl.un ++ [.cap (some cds)])
end MD
set_option Elab.async false
set_option linter.all false
set_option maxRecDepth 100000
set_option maxHeartbeats 2000000
namespace MD
open PySem PySem.Spec PyProof.Rows L2
end MD
set_option Elab.async false
set_option linter.all false
set_option maxRecDepth 100000
set_option maxHeartbeats 2000000
namespace MD
open PySem PySem.Spec PyProof.Rows L2
end MD
set_option Elab.async false
set_option linter.all false
set_option maxRecDepth 100000
set_option maxHeartbeats 2000000
namespace MD
open PySem PySem.Spec PyProof.Rows L2
end MD
set_option Elab.async false
set_option linter.all false
set_option maxRecDepth 100000
set_option maxHeartbeats 1000000
namespace MD
open PySem L2
end MD
set_option Elab.async false
set_option linter.all false
set_option maxRecDepth 100000
set_option maxHeartbeats 1000000
namespace MD
open PySem PySem.Spec PyProof.Rows L2
structure ClsB (K : Fg) (C : Addr) (c : Str) (fl : List Str) : Prop where
  a : PySem.W.nsIn K mainGlobals c = some (some (.ref C))
  pg : PySem.W.plainGet K C Str.empty = true
  hd : PySem.W.hasDictIn K C = true
  po : PySem.W.plainOver K C = true
  sa : PySem.W.findIn K (.ref C) "__setattr__" = some (some (.builtin "object.__setattr__"))
  made : PySem.W.makesIn K C = true
  kc : PySem.W.keepIn K (.ref C) = true
  no : ∀ f ∈ fl, PySem.W.findIn K (.ref C) f = some none
section
variable {P : Program} {w : World} {K : Fg} {mg : Str → Option Value} {h base : Heap} {C : Addr} {st : Stmt} {c x m q : Str} {k : Nat} {ps fl : List Str} {sp : Sp}
theorem ClsB.cls (b : ClsB K C c fl) : Cls K C := ⟨b.pg, b.hd, b.po, b.sa⟩
theorem ClsB.ok (b : ClsB K C c fl) : ClsOk K c fl := clsOk_mk b.a b.cls b.no
end
end MD
set_option Elab.async false
set_option linter.all false
set_option maxRecDepth 100000
set_option maxHeartbeats 2000000
namespace MD
open PySem PySem.Spec PyProof.Rows L2
variable {ww : WW}
noncomputable abbrev HdG := Value × Option Nat × TX
noncomputable def offO : Option Nat → Ends → Ends
  | none, D => D
  | some i, D => offE i D
noncomputable def putO : Option Nat → L2.St → Addr → L2.St
  | none, σ, _ => σ
  | some i, σ, a => σ.set i (some (.ref a))
noncomputable def wGen (K : Fg) (Wout : WX) (D : Ends) : List HdG → WX
  | [] => Wout
  | (c, o, ts) :: r => fun cls d σ H => ∃ b, PySem.W.exmOne K cls c = some b ∧ (b = true → ∀ a, H a = none → ts a cls d (offO o D) (putO o σ a) H) ∧ (b = false → wGen K Wout D r cls d σ H)
inductive HdsG (X : Cx) : List ExceptHandler → List HdG → Prop
  | nil : HdsG X [] []
  | cons {x n : Str} {c : Value} {i : Nat} {ts : TX} {b₀ : Stmt} {suite : List Stmt} {np pos' : Pos} {hds : List ExceptHandler} {l : List HdG} (hc : Names X x c) (hi : X.N[i]? = some n) (hln : X.env.kindOf n = some .local)
      (hsu : ∀ (a : Addr) (oe : Obj) (cls : Value) (d : Option Addr) (pn : List (Addr × Obj)), Zc cls d oe → (∃ vs, oe.data = .fields vs) → PSs (X.suite a ((a, oe) :: pn)) (b₀ :: suite) (ts a cls d)) (r : HdsG X hds l) :
      HdsG X (.ExceptHandler (some (.Name x np)) (some n) (b₀ :: suite) pos' :: hds) ((c, some i, ts) :: l)
  | bare {x : Str} {c : Value} {ts : TX} {b₀ : Stmt} {suite : List Stmt} {np pos' : Pos} {hds : List ExceptHandler} {l : List HdG} (hc : Names X x c)
      (hsu : ∀ (a : Addr) (oe : Obj) (cls : Value) (d : Option Addr) (pn : List (Addr × Obj)), Zc cls d oe → (∃ vs, oe.data = .fields vs) → PSs (X.suite a ((a, oe) :: pn)) (b₀ :: suite) (ts a cls d)) (r : HdsG X hds l) :
      HdsG X (.ExceptHandler (some (.Name x np)) none (b₀ :: suite) pos' :: hds) ((c, none, ts) :: l)
section
variable {X : Cx} {body : List Stmt} {h₀ : ExceptHandler} {hds : List ExceptHandler} {l : List HdG} {pos : Pos} {tb : WX → TS} {Wout : WX}
theorem ps_try_gen (hs : X.stack = X.env :: X.outer) (hf : X.env.frame = some X.env.locals) (hN : X.N.Nodup) (tk : Takes X Wout)
    (hb : ∀ (W : WX) (pn : List (Addr × Obj)) (xe : Value → Shared → Prop), Takes (X.tr pn xe) W → PassesOwn (model X.prog X.w) X.A X.env xe → PSs (X.tr pn xe) body (tb W))
    (hh : HdsG X (h₀ :: hds) l) : PS X (.Try body (h₀ :: hds) [] [] pos) (fun D σ H => tb (wGen X.K Wout D l) D σ H) := by
  refine ⟨fun pins s σ H D I h => ?_⟩
  have ok := I.ok
  have hfr : X.A.frames = some (X.env :: X.outer) := by rw [ok.frames, hs]
  refine wpAny_Try_except ?_
  refine wpAny_mono ((hb (wGen X.K Wout D l) (X.pn ++ pins) (fun e s₁ => wpAny (model X.prog X.w) X.A (noteFrame e X.env) (fun _ s₂ => wpAny (model X.prog X.w) X.A (setFlight e none) (fun _ s₃ =>
    wpAny (model X.prog X.w) X.A (handleBy e X.env (h₀ :: hds)) (SP X pins D) X.xe s₃) X.xe s₂) X.xe s₁) (fun u s' xx => ?_) PassesOwn.looking).run [] s σ H D (I.toTry _) h) (fun f s1 hsp => ?_) (fun e s1 he => he)
  · -- the catch
    obtain ⟨a, B, sI, pins', σ', H', cls, d, rfl, J', nb, up, sky, na, os, ag, w⟩ := xx
    have J : Inv X pins σ' H' sI := J'.ofTry ok
    have sky' : Sky B (X.env :: X.outer) a (Zc cls d) X.env.locals s'.heap := by rw [← hs]; exact sky
    show wpAny (model X.prog X.w) X.A (noteFrame (.ref a) X.env) _ _ _
    refine Sky.land Zc.steady hfr hf sky' fun h3 fl3 up3 => ?_
    have J3 : Inv X pins σ' H' { s' with heap := h3 } := J.landed nb fl3.1 (up.trans up3) os ag
    obtain ⟨oe3, vs3, he3, hz3, hd3⟩ := fl3.there
    have notFr : ∀ {h : Heap} {o : Obj} {vs : Array Value}, h.FunFrames B (X.env :: X.outer) → h.get? a = some o → o.data = .fields vs → a ∉ frs (X.env :: X.outer) := fun {h o vs} ff e dd hm => by
      obtain ⟨_, o', e', hnf⟩ := ff.mem hm
      rw [e] at e'; cases e'
      exact hnf _ dd
    have nfr := notFr fl3.2.2.1 he3 hd3
    have nL : a ≠ X.env.locals := fun z => nfr (List.mem_filterMap.mpr ⟨X.env, List.mem_cons_self, by rw [hf, z]⟩)
    have nF : a ∉ X.fs := fun hm => by
      obtain ⟨e, he, q⟩ := List.mem_filterMap.mp hm
      exact nfr (List.mem_filterMap.mpr ⟨e, List.mem_cons_of_mem _ he, q⟩)
    have S3 := J3.suite he3 hd3 na nL nF
    have go : ∀ {hds' : List ExceptHandler} {l' : List HdG}, HdsG X hds' l' → wGen X.K Wout D l' cls d σ' H' →
        wpAny (model X.prog X.w) X.A (handleBy (.ref a) X.env hds') (SP X pins D) X.xe { s' with heap := h3 } := by
      intro hds' l' hk
      induction hk with
      | nil =>
        intro w
        refine wpAny_handleBy_nil ?_
        obtain ⟨k1, k2, k3, oe, vs, T, oT, ts', he, hz, hd, h1, hr⟩ := id fl3
        unfold PySem.passOn
        refine wpAny_bind (wpAny_field he hd h1 ?_)
        rw [if_neg (show ¬ ((Value.ref T == Value.none) = true) from by simp)]
        have fin : wpAny (model X.prog X.w) X.A (setFlight (.ref a) X.env.frame) (fun _ s4 => wpAny (model X.prog X.w) X.A (throw (.ref a) : Sem Flow) (SP X pins D) X.xe s4) X.xe { s' with heap := h3 } := by
          rw [hf]
          refine HandSPX.setFlight_upZ fl3 fun h4 hh4 up4 => wpAny_throw (tk _ _ ?_)
          exact ⟨a, B, sI, pins, σ', H', cls, d, rfl, J, nb, (up.trans up3).trans up4, .inr (.inr (by rw [hs]; exact hh4)), na, os, ag, w⟩
        first
          | exact wpAny_bind (wpAny_pure (wpAny_bind fin))
          | exact wpAny_bind fin
      | @cons x n c i ts b₀ suite np pos' hds2 l2 hc hi hln hsu r ih =>
        intro w
        obtain ⟨b, hb1, hyes, hno⟩ := w
        refine wpAny_handleBy_cons (codeAny_handlers_test ?_) (by intro q; cases q)
        have LT : PySem.W.Looks (model X.prog X.w) h3 (typeOf (.ref a)) cls := fun A Q E s k q => wpAny_typeOf_ref (k _ _ he3) (by rw [hz3.1]; exact q)
        have LM := PySem.W.exm_one (M := model X.prog X.w) (J3.kIn) LT hb1
        have test : ∀ {Q : Value → Shared → Prop} {E : Value → Shared → Prop}, Q c { s' with heap := h3 } → wpAny (model X.prog X.w) (X.A.mark (some (.ref a))) (eval (.Name x np) X.env) Q E { s' with heap := h3 } := fun {Q E} q => by
          obtain ⟨hg, hdbg, hm | ⟨hm, hv, hnn⟩⟩ := hc
          · exact ld_glob (X := X.suite a ((a, oe3) :: (X.pn ++ pins))) S3 hg hm q hdbg
          · exact ld_blt (X := X.suite a ((a, oe3) :: (X.pn ++ pins))) S3 hg hm hv q hnn hdbg
        refine test (LM.here ?_)
        have hloc : Loc X.env.scope n := .inl hln
        cases b with
        | true =>
          refine codeAny_handlers_suite_as ?_
          refine HandSPX.lands_againZ fl3 fun h4 fl4 up4 => ?_
          have J4 : Inv X pins σ' H' { s' with heap := h4 } := J.landed nb fl4.1 ((up.trans up3).trans up4) os ag
          obtain ⟨oe4, vs4, he4, hz4, hd4⟩ := fl4.there
          have S4 := J4.suite he4 hd4 na nL nF
          refine store_ok (X := X.suite a ((a, oe4) :: (X.pn ++ pins))) (v := .ref a) S4 hN hi hloc rfl (fun s5 S5 => ?_) (.inr hln)
          refine wpAny_mono ((hsu a oe4 cls d (X.pn ++ pins) hz4 ⟨_, hd4⟩).run [] s5 _ H' _ S5 (hyes rfl a na)) (fun f s6 hsp => ?_) (fun _ _ z => False.elim z)
          have end_ : ∀ {σ6 : L2.St} {H6 : Hp} {Q : Shared → Prop}, Inv (X.suite a ((a, oe4) :: (X.pn ++ pins))) [] σ6 H6 s6 → (∀ s7, Inv X pins (σ6.set i none) H6 s7 → Q s7) →
              wpAny (model X.prog X.w) X.A (do bindName X.env n .none; unbindBehindTheSuite X.env n pos') (fun _ s7 => Q s7) X.xe s6 := fun {σ6 H6 Q} S6 hq => gone_ok (S6.unsuite ok) hN hi hln hq
          cases f with
          | next =>
            obtain ⟨σ6, H6, S6, q6⟩ := hsp
            exact end_ S6 fun s7 J7 => ⟨_, _, J7, q6⟩
          | brk =>
            obtain ⟨σ6, H6, S6, q6⟩ := hsp
            exact end_ S6 fun s7 J7 => ⟨_, _, J7, q6⟩
          | cont =>
            obtain ⟨σ6, H6, S6, q6⟩ := hsp
            exact end_ S6 fun s7 J7 => ⟨_, _, J7, q6⟩
          | ret u =>
            obtain ⟨v6, σ6, H6, S6, r6, q6⟩ := hsp
            exact end_ S6 fun s7 J7 => ⟨_, _, _, J7, r6, q6⟩
        | false =>
          show wpAny _ X.A (handleBy (.ref a) X.env hds2) _ _ _
          exact ih (hno rfl)
      | @bare x c ts b₀ suite np pos' hds2 l2 hc hsu r ih =>
        intro w
        obtain ⟨b, hb1, hyes, hno⟩ := w
        refine wpAny_handleBy_cons (codeAny_handlers_test ?_) (by intro q; cases q)
        have LT : PySem.W.Looks (model X.prog X.w) h3 (typeOf (.ref a)) cls := fun A Q E s k q => wpAny_typeOf_ref (k _ _ he3) (by rw [hz3.1]; exact q)
        have LM := PySem.W.exm_one (M := model X.prog X.w) (J3.kIn) LT hb1
        have test : ∀ {Q : Value → Shared → Prop} {E : Value → Shared → Prop}, Q c { s' with heap := h3 } → wpAny (model X.prog X.w) (X.A.mark (some (.ref a))) (eval (.Name x np) X.env) Q E { s' with heap := h3 } := fun {Q E} q => by
          obtain ⟨hg, hdbg, hm | ⟨hm, hv, hnn⟩⟩ := hc
          · exact ld_glob (X := X.suite a ((a, oe3) :: (X.pn ++ pins))) S3 hg hm q hdbg
          · exact ld_blt (X := X.suite a ((a, oe3) :: (X.pn ++ pins))) S3 hg hm hv q hnn hdbg
        refine test (LM.here ?_)
        cases b with
        | true =>
          refine codeAny_handlers_suite ?_
          refine HandSPX.lands_againZ fl3 fun h4 fl4 up4 => ?_
          have J4 : Inv X pins σ' H' { s' with heap := h4 } := J.landed nb fl4.1 ((up.trans up3).trans up4) os ag
          obtain ⟨oe4, vs4, he4, hz4, hd4⟩ := fl4.there
          have S4 := J4.suite he4 hd4 na nL nF
          refine wpAny_mono ((hsu a oe4 cls d (X.pn ++ pins) hz4 ⟨_, hd4⟩).run [] _ _ H' _ S4 (hyes rfl a na)) (fun f s6 hsp => ?_) (fun _ _ z => False.elim z)
          cases f with
          | next =>
            obtain ⟨σ6, H6, S6, q6⟩ := hsp
            exact ⟨_, _, S6.unsuite ok, q6⟩
          | brk =>
            obtain ⟨σ6, H6, S6, q6⟩ := hsp
            exact ⟨_, _, S6.unsuite ok, q6⟩
          | cont =>
            obtain ⟨σ6, H6, S6, q6⟩ := hsp
            exact ⟨_, _, S6.unsuite ok, q6⟩
          | ret u =>
            obtain ⟨v6, σ6, H6, S6, r6, q6⟩ := hsp
            exact ⟨_, _, _, S6.unsuite ok, r6, q6⟩
        | false =>
          show wpAny _ X.A (handleBy (.ref a) X.env hds2) _ _ _
          exact ih (hno rfl)
    exact go hh w
  · cases f with
    | next =>
      obtain ⟨σ', H', J', q⟩ := hsp
      exact wpAny_execs_nil ⟨σ', H', J'.ofTry ok, q⟩
    | brk =>
      obtain ⟨σ', H', J', q⟩ := hsp
      exact ⟨σ', H', J'.ofTry ok, q⟩
    | cont =>
      obtain ⟨σ', H', J', q⟩ := hsp
      exact ⟨σ', H', J'.ofTry ok, q⟩
    | ret u =>
      obtain ⟨v, σ', H', J', r, q⟩ := hsp
      exact ⟨v, σ', H', J'.ofTry ok, r, q⟩
end
end MD
set_option Elab.async false
set_option linter.all false
set_option maxRecDepth 100000
set_option maxHeartbeats 2000000
namespace MD
open PySem PySem.Spec PyProof.Rows L2
variable {ww : WW}
section
variable {prog : Program} {w : World} {A : Around} {E : Value → Shared → Prop} {s : Shared} {K : Fg} {x C f : Addr} {ox : Obj} {od : Option Obj}
theorem getO_k {value slice : Expr} {i : Value} {Q : Value → Shared → Prop} (X : K.In s.heap) (I : PySem.W.InstAt s.heap x ox C od) (hs : PySem.W.findIn K (.ref C) "__getitem__" = some (some (.ref f))) (hf : PySem.W.fnIn K f = true) (hfn : PySem.W.isFn K (.ref f) = true)
    (h : wpAny (model prog w) A.in1 (call (.ref f) [.ref x, i]) Q E s)
    (hsl : subscripted slice true (.ref x) i = runValue (.builtin "lifetime.subscript" ⟨[.ref x, i], []⟩)) :
    wpAny (model prog w) A (subscriptTail value slice (.ref x) i) Q E s := by
  unfold PySem.W.fnIn at hf
  split at hf
  · rename_i e
    unfold subscriptTail getitemInPython
    refine wpAny_bind (wpAny_bind (wpAny_bind (I.type.here ((PySem.W.looks_findIn X hs).here ?_))))
    dsimp only
    refine wpAny_bind (wpAny_load (X _ _ e) (wpAny_pure ?_))
    dsimp only
    rw [hsl]
    refine wpAny_bind (wpAny_runValue (codeAny_builtin PySem.W.entry_sub ?_))
    unfold Builtin.«lifetime.subscript»
    refine wpAny_bind (PySem.W.special_fn X I hs (beq_iff_eq.mp hfn) (wpAny_mono h (fun v s' z => ?_) fun _ _ z => z))
    refine wpAny_pure ?_
    show wpAny (model prog w) A (letTemporaryGo value (.ref x) v >>= fun _ => pure v) Q E s'
    exact wpAny_bind (wpAny_letTemporaryGo (wpAny_pure z))
  · cases hf
theorem setO_k {M : Model} {i v : Value} {Q : Unit → Shared → Prop} (X : K.In s.heap) (I : PySem.W.InstAt s.heap x ox C od) (hq : PySem.W.noSeq K C = true) (hs : PySem.W.findIn K (.ref C) "__setitem__" = some (some (.ref f))) (hf : PySem.W.isFn K (.ref f) = true)
    (h : wpAny M A (call (.ref f) [.ref x, i, v]) (fun _ s' => Q () s') E s) : wpAny M A (setItem (.ref x) i v) Q E s := by
  unfold setItem sequenceKey
  refine wpAny_holding (wpAny_bind (wpAny_bind (I.type.here ?_)))
  refine wpAny_bind ((PySem.W.anyM_none X hq).here ?_)
  rw [if_pos (show (!false) = true from rfl)]
  exact wpAny_pure (wpAny_bind (PySem.W.special_fn X I hs (beq_iff_eq.mp hf) (wpAny_mono h (fun _ _ z => wpAny_pure z) fun _ _ z => z)))
theorem iopO_k {op : Operator} {b : Value} {Q : Value → Shared → Prop} (X : K.In s.heap) (I : PySem.W.InstAt s.heap x ox C od) (hc : PySem.W.selfFirst K C = true) (hs : PySem.W.findIn K (.ref C) (dunderI op.info.2) = some (some (.ref f)))
    (hf : PySem.W.isFn K (.ref f) = true) (h : wpAny (model prog w) A (call (.ref f) [.ref x, b]) (PySem.W.CmpBack Q) E s) : wpAny (model prog w) A (inplaceOp op (.ref x) b) Q E s := by
  obtain ⟨cd, rest, hcd, hm⟩ := PySem.W.ksp_first hc
  have one := PySem.W.ksp_try X I hs hf h
  obtain ⟨hh, g, d, tt, os⟩ := s
  have L1 : PySem.W.Looks (model prog w) hh (typeOf (.ref x)) (.ref C) := I.type
  have L2 : PySem.W.Looks (model prog w) hh (fillsInplaceSlot (.ref C) op.info.2 (op == .Add)) true := PySem.W.ksp_fillsI X hcd hm hs
  unfold inplaceOp
  refine wpAny_holding ?_
  ksp_lk
  refine wpAny_mono one (fun r s' hr' => ?_) fun _ _ e => e
  obtain ⟨v, rfl, hq⟩ := hr'
  ksp_lk
  exact hq
end
noncomputable def tGetO (C : Addr) (sp : Sp) (E : L2.St → XK) (to ti : TE) : TE := fun σ H Q => to σ H fun x H1 => ti σ H1 fun y H2 => ∃ a dx fs, x = .ref a ∧ H2 a = some (.ins C dx fs) ∧ sp [x, y] H2 Q (E σ)
noncomputable def gSetO (C : Addr) (sp : Sp) (E : L2.St → XK) (to ti : TE) : TG := fun v σ H Q => to σ H fun x H1 => ti σ H1 fun y H2 => ∃ a dx fs, x = .ref a ∧ H2 a = some (.ins C dx fs) ∧ sp [x, y, v] H2 (fun _ H3 => Q σ H3) (E σ)
noncomputable def tIopO (i : Nat) (C : Addr) (sp : Sp) (E : L2.St → XK) (te : TE) : TS := fun D σ H => ∃ x, σ[i]? = some (some x) ∧ te σ H fun y H1 => ∃ a dx fs, x = .ref a ∧ H1 a = some (.ins C dx fs) ∧ sp [x, y] H1 (fun z H2 => D.nx (σ.set i (some z)) H2) (E σ)
section
variable {X : Cx} {j k : Nat} {f : Addr} {fd : FuncData} {ps : List Str} {sp : Sp} {C : Addr} {p pos pos' : Pos} {e o i : Expr} {to ti te : TE} {E : L2.St → XK}
theorem runX_at {A : Around} {pins : List (Addr × Obj)} {σ : L2.St} {H : Hp} {s : Shared} {Q : VK} {us : List Value} {vs : List V} {E : XK} (F : FnX X.prog X.w X.K X.mg X.base k f fd ps sp) (hr : Room k A) (gd : A.guards = some []) (e0 : Env0 X.prog X.w X.K X.mg X.base A X.stack s H) (hb : Binds X.K fd ps [])
    (hx : PassesAt (L2.CX X.prog X.w) X σ E) (I : L2.Inv X pins σ H s) (r : Vals vs us) (q : sp vs H Q E) : wpAny (model X.prog X.w) A (call (.ref f) us) (EP X pins σ Q) X.xe s := by
  have hl : us.length = ps.length := r.length.symm.trans (F.len _ _ _ _ q)
  have bb := hb s us I.kIn (by rw [List.append_nil]; exact hl)
  rw [List.append_nil] at bb
  refine wpAny_call (codeAny_mono (F.run A X.stack s H ⟨us, []⟩ us vs Q E hr gd e0 bb r q) fun rr s' hq => ?_)
  cases rr with
  | error er => exact hx pins H s er s' I hq
  | ok fl =>
    cases fl with
    | ret u => exact I.after hq
    | next => exact False.elim hq
    | brk => exact False.elim hq
    | cont => exact False.elim hq
theorem pe_getO (ho : PE X o to) (hi : PE X i ti) (m : Meth X.K C "__getitem__" f) (hf : PySem.W.fnIn X.K f = true) (F : FnX X.prog X.w X.K X.mg X.base k f fd ps sp) (hr : Room (k + 1) X.A) (gd : X.A.guards = some []) (hb : Binds X.K fd ps []) (hx : ∀ σ, PassesAt (L2.CX X.prog X.w) X σ (E σ))
    (hsl : ∀ x y : Value, subscripted i true x y = runValue (.builtin "lifetime.subscript" ⟨[x, y], []⟩) := by intro _ _; with_unfolding_all rfl) : PE X (.Subscript o i pos) (tGetO C sp E to ti) := by
  refine ⟨fun pins s σ H Q I h => ?_⟩
  refine Subscript_ (thn (ho.run pins s σ H _ I h) fun v s1 ⟨x, H1, I1, r1, q1⟩ => ?_)
  refine thn (hi.run pins s1 σ H1 _ I1 q1) fun u s2 ⟨y, H2, I2, r2, q2⟩ => ?_
  obtain ⟨a, dx, fs, rfl, ea, q⟩ := q2
  cases (show v = Value.ref a from r1)
  obtain ⟨mA, O, _, _, _, _⟩ := ins_get I2.hok ea
  obtain ⟨od, J, _⟩ := O.look
  exact getO_k I2.kIn J m.at_ hf m.fn (runX_at (us := [.ref a, u]) (vs := [.ref a, y]) F (Room.in1 hr) gd I2.env0.in1 hb (hx σ) I2 (.cons rfl (.cons r2 .nil)) q) (hsl _ _)
theorem pg_setO (ho : PE X o to) (hi : PE X i ti) (m : Meth X.K C "__setitem__" f) (hq : PySem.W.noSeq X.K C = true) (F : FnX X.prog X.w X.K X.mg X.base k f fd ps sp) (hr : Room k X.A) (gd : X.A.guards = some []) (hb : Binds X.K fd ps []) (hx : ∀ σ, PassesAt (L2.CX X.prog X.w) X σ (E σ))
    (ha : ∀ v, assign (.Subscript o i pos) X.env v = (do
      let ov ← holding [v] (eval o X.env)
      let iv ← holding [v, ov] (eval i X.env)
      standAt pos
      holding [v, ov, iv] (setItem ov iv v)
      release [v, ov, iv] []) := by intro _; rfl) : PG X (.Subscript o i pos) (gSetO C sp E to ti) := by
  refine ⟨fun pins s σ H v u Q I r h => ?_⟩
  rw [ha]
  refine wpAny_bind (wpAny_holding (thn (ho.run pins s σ H _ I h) fun ov s1 ⟨x, H1, I1, r1, q1⟩ => ?_))
  refine wpAny_bind (wpAny_holding (thn (hi.run pins s1 σ H1 _ I1 q1) fun iv s2 ⟨y, H2, I2, r2, q2⟩ => ?_))
  obtain ⟨a, dx, fs, rfl, ea, q⟩ := q2
  cases (show ov = Value.ref a from r1)
  obtain ⟨mA, O, _, _, _, _⟩ := ins_get I2.hok ea
  obtain ⟨od, J, _⟩ := O.look
  refine wpAny_bind (wpAny_standAt (wpAny_bind (wpAny_holding (setO_k I2.kIn J hq m.at_ m.fn ?_))))
  refine thn (runX_at (us := [.ref a, iv, u]) (vs := [.ref a, y, v]) F hr gd I2.env0 hb (hx σ) I2 (.cons rfl (.cons r2 (.cons r .nil))) q) fun z s3 ⟨zv, H3, I3, r3, q3⟩ => ?_
  exact wpAny_release ⟨σ, H3, I3, q3⟩
theorem ps_iopO {x : Str} {n : Nat} {op : Operator} (hN : X.N.Nodup) (hi : X.N[n]? = some x) (hx : Loc X.env.scope x) (he : PE X e te) (m : Meth X.K C (dunderI op.info.2) f) (hc : PySem.W.selfFirst X.K C = true) (F : FnX X.prog X.w X.K X.mg X.base k f fd ps sp) (hr : Room k X.A) (gd : X.A.guards = some []) (hb : Binds X.K fd ps [])
    (hE : ∀ σ, PassesAt (L2.CX X.prog X.w) X σ (E σ)) (hf : X.fn x = true ∨ X.env.scope.names.lookup x = some .local := by first | exact .inl rfl | exact .inr rfl | assumption) : PS X (.AugAssign (.Name x pos') op e pos) (tIopO n C sp E te) := by
  refine ⟨fun pins s σ H D I h => ?_⟩
  obtain ⟨v, e1, h⟩ := h
  obtain ⟨mm, hn, hl⟩ := I.loc
  have vis : Vis X.env.scope x := by rcases hx with k | k; exact .inl k; exact .inr (.inl k)
  obtain ⟨u, r, l⟩ := hl n x v hi e1 vis
  refine wpAny_AugAssign_Name ?_
  have go : wpAny (model X.prog X.w) X.A (eval e X.env) (fun w s₂ => wpAny (model X.prog X.w) X.A (inplaceOp op u w) (fun r s₃ => wpAny (model X.prog X.w) X.A (storeName X.env x r) (fun _ => SP X pins D .next) X.xe s₃) X.xe s₂) X.xe s := by
    refine thn (he.run pins s σ H _ I h) fun w s1 ⟨y, H1, I1, r1, q1⟩ => ?_
    obtain ⟨a, dx, fs, rfl, ea, q⟩ := q1
    cases (show u = Value.ref a from r)
    obtain ⟨mA, O, _, _, _, _⟩ := ins_get I1.hok ea
    obtain ⟨od, J, _⟩ := O.look
    refine iopO_k I1.kIn J hc m.at_ m.fn ?_
    refine thn (runX_at (us := [.ref a, w]) (vs := [.ref a, y]) F hr gd I1.env0 hb (hE σ) I1 (.cons rfl (.cons r1 .nil)) q) fun z s2 ⟨zv, H2, I2, r2, q2⟩ => SlX.cmpback r2 ?_
    exact store_ok I2 hN hi hx r2 (fun s3 I3 => ⟨_, H2, I3, q2⟩) hf
  rcases l with ⟨hk, hm⟩ | ⟨hk, c, hc, hcell⟩
  · exact wpAny_loadName_local I.ok.kind hk hn hm go
  · rcases hk with hk | hk
    · exact wpAny_loadName_cell I.ok.kind hk hc hcell go
    · rcases hx with k | k
      · have : X.env.scope.names.lookup x = some .free := hk
        rw [k] at this; cases this
      · have : X.env.scope.names.lookup x = some .free := hk
        rw [k] at this; cases this
end
end MD
set_option Elab.async false
set_option linter.all false
set_option maxRecDepth 100000
set_option maxHeartbeats 2000000
namespace MD
open PySem PySem.Spec PyProof.Rows L2
variable {ww : WW}
section
variable {K : Fg} {mg : Str → Option Value} {W : WX}
/-- [e, ..] -/
noncomputable def lstX (a : MAX) : MEX := fun env st => (a env st).bind fun p => match p.1 with
  | .ok ds => if ds.length ≤ sizeLine then some (.ok (.lst ds), p.2) else none
  | .xc c g x => some (.xc c g x, p.2)
theorem ix_lst {ta : TA} {a : MAX} (h : ImAX K mg W ta a) : ImEX K mg W (tLst ta) (lstX a) := fun dk H0 F0 F σ H env st r st' g e Q q => by
  obtain ⟨⟨x, s1⟩, h1, e⟩ := bnd e
  cases x with
  | xc c f d =>
    cases e
    exact h dk H0 F0 F σ H env st _ s1 g h1 _ q
  | ok ds =>
    dsimp only at e
    split at e
    · rename_i hz
      cases e
      refine h dk H0 F0 F σ H env st _ _ g h1 _ fun vs F1 H1 x1 g1 r1 => ⟨by rw [r1.length]; exact hz, fun p hp => ?_⟩
      have px : Px F1 H1 (F1.up p (.lst vs)) (upd H1 p (.lst vs)) := Px.new g1.wd.sub hp
      exact q _ _ _ (x1.trans px.ext) (g1.px px) (.lst Fz.up_same (r1.mono px.f))
    · cases e
/-- a raising expression that does not raise here -/
noncomputable def noX (f : MEX) : ME := fun env st => (f env st).bind fun p => match p.1 with
  | .ok d => some (d, p.2)
  | .xc _ _ _ => none
theorem im_noX {te : TE} {f : MEX} (h : ImEX K mg W te f) : Im K te (noX f) := fun dk H0 F0 F σ H env st d st' g e Q q => by
  obtain ⟨⟨x, s1⟩, h1, e⟩ := bnd e
  cases x with
  | xc c f d => cases e
  | ok x => cases e; exact h dk H0 F0 F σ H env st _ s1 g h1 Q q
/-- o[i] by an own method -/
noncomputable def getOX (c : Str) (mf : MFX) (fo fi : ME) : MEX := fun env st => (fo env st).bind fun p => (fi env p.2).bind fun q => (refOf p.1).bind fun n => (insAt [c] q.2 n).bind fun _ => mf [p.1, q.1] q.2
theorem ix_getO {c : Str} {C : Addr} {mf : MFX} {to ti : TE} {fo fi : ME} (hC : clsOf K c = some C) (ho : Im K to fo) (hi : Im K ti fi) : ImEX K mg W (tGetO C (spX K mg 2 mf) (WE W) to ti) (getOX c mf fo fi) := fun dk H0 F0 F σ H env st r st' g e Q q => by
  obtain ⟨⟨x, s1⟩, e1, e⟩ := bnd e
  obtain ⟨⟨y, s2⟩, e2, e⟩ := bnd e
  obtain ⟨j, e3, e⟩ := bnd e
  obtain ⟨z, e4, e⟩ := bnd e
  refine ho dk H0 F0 F σ H env st x s1 g e1 _ fun v F1 H1 x1 g1 r1 => ?_
  refine hi dk H0 F0 F1 σ H1 env s1 y s2 g1 e2 _ fun u F2 H2 x2 g2 r2 => ?_
  have hx : x = .ref j := refOf_eq e3
  subst hx
  have r1' := r1.mono x2.f
  obtain ⟨b, rfl, hb⟩ := r1'.refn
  obtain ⟨C', dx, vs, h1, h2, h3, h4⟩ := g2.wd.insAt hb e4
  have hz : z.1 = c := List.mem_singleton.mp (insAt_eq e4).2
  rw [hz, hC] at h1
  cases h1
  refine ⟨b, dx, _, rfl, h2, rfl, dk, F2, [.ref j, y], s2, r, st', g2.wd, .cons r1' (.cons r2 .nil), e, ?_⟩
  cases r with
  | ok d => exact fun v F' H' x w r => q v F' H' ((x1.trans x2).trans x) (g2.step x w) r
  | xc c f d => exact Xw.mono q (x1.trans x2)
end
noncomputable def ImSW [WW] (K : Fg) (mg : Str → Option Value) (W : WX) (ts : TS) (f : MSX) : Prop := ∀ (dk : Dk) (H0 : Hp) (F0 F : Fz) (σ : L2.St) (H : Hp) (env : Sg) (st : S) (r : Fx) (st' : S), Good K dk H0 F0 F σ H env st → f env st = some (r, st') → ∀ E : Ends,
  (match r with
    | .fl fl => Dn K dk H0 F0 F E st' fl
    | .xc c g d => Xw K mg dk H F st' c g d (WE W σ)) → ts E σ H
section
variable {K : Fg} {mg : Str → Option Value} {W : WX}
theorem isw_seq {t u : TS} {f : MSX} {h : MS} (h1 : ImSW K mg W t f) (h2 : ImS K u h) : ImSW K mg W (tSeq t u) (seqX f (liX h)) := fun dk H0 F0 F σ H env st r st' g e E hd => by
  obtain ⟨⟨r1, s1⟩, e1, e⟩ := bnd e
  cases r1 with
  | fl fl1 =>
    cases fl1 with
    | nx env1 =>
      obtain ⟨⟨fl, s2⟩, e2, e⟩ := mpd e
      cases e
      exact h1 dk H0 F0 F σ H env st _ s1 g e1 _ fun F1 σ1 H1 le1 g1 => h2 dk H0 F0 F1 σ1 H1 env1 s1 fl _ g1 e2 E (Dn.mono le1 hd)
    | rt d => cases e; exact h1 dk H0 F0 F σ H env st _ s1 g e1 _ hd
    | bk d => cases e; exact h1 dk H0 F0 F σ H env st _ s1 g e1 _ hd
    | ct d => cases e; exact h1 dk H0 F0 F σ H env st _ s1 g e1 _ hd
  | xc c f d => cases e; exact h1 dk H0 F0 F σ H env st _ s1 g e1 _ hd
theorem isw_if {c : TT} {t u : TS} {fc : MT} {f h : MSX} (h0 : ImT K c fc) (h1 : ImSW K mg W t f) (h2 : ImSW K mg W u h) : ImSW K mg W (tIfS c t u) (ifX fc f h) := fun dk H0 F0 F σ H env st r st' g e E hd => by
  obtain ⟨⟨b, s1⟩, e1, e⟩ := bnd e
  refine h0 dk H0 F0 F σ H env st b s1 g e1 _ fun F1 H1 x1 g1 => ?_
  cases r with
  | fl fl => cases b with
    | true => exact h1 dk H0 F0 F1 σ H1 env s1 _ st' g1 e E (Dn.mono x1.f hd)
    | false => exact h2 dk H0 F0 F1 σ H1 env s1 _ st' g1 e E (Dn.mono x1.f hd)
  | xc c f d => cases b with
    | true => exact h1 dk H0 F0 F1 σ H1 env s1 _ st' g1 e E (Xw.mono hd x1)
    | false => exact h2 dk H0 F0 F1 σ H1 env s1 _ st' g1 e E (Xw.mono hd x1)
theorem isw_asg {te : TE} {g : TG} {t : MG} {f : MEX} {is : List Nat} (h : ImEX K mg W te f) (hg : ImG K g t is) : ImSW K mg W (tAsg te g) (asgX t f) := fun dk H0 F0 F σ H env st r st' gd e E hd => by
  obtain ⟨⟨x, s1⟩, e1, e⟩ := bnd e
  cases x with
  | ok d =>
    obtain ⟨en, e2, e⟩ := mpd e
    cases e
    refine h dk H0 F0 F σ H env st _ s1 gd e1 _ fun v F1 H1 x1 g1 r1 => ?_
    exact hg dk H0 F0 F1 σ H1 env s1 v d en g1 r1 e2 _ fun σ' g2 _ => hd F1 σ' H1 x1.f g2
  | xc c f d =>
    cases e
    exact h dk H0 F0 F σ H env st _ s1 gd e1 _ hd
/-- o[i] = e by an own method -/
noncomputable def setOX (c : Str) (mf : MFX) (fe fo fi : ME) : MSX := fun env st => (fe env st).bind fun v => (fo env v.2).bind fun p => (fi env p.2).bind fun q => (refOf p.1).bind fun n => (insAt [c] q.2 n).bind fun _ => (mf [p.1, q.1, v.1] q.2).bind fun r => match r.1 with
  | .ok _ => some (.fl (.nx env), r.2)
  | .xc c g x => some (.xc c g x, r.2)
theorem isw_setO {c : Str} {C : Addr} {mf : MFX} {te to ti : TE} {fe fo fi : ME} (hC : clsOf K c = some C) (he : Im K te fe) (ho : Im K to fo) (hi : Im K ti fi) : ImSW K mg W (tAsg te (gSetO C (spX K mg 3 mf) (WE W) to ti)) (setOX c mf fe fo fi) := fun dk H0 F0 F σ H env st r st' g e E hd => by
  obtain ⟨⟨v, s0⟩, e0, e⟩ := bnd e
  obtain ⟨⟨x, s1⟩, e1, e⟩ := bnd e
  obtain ⟨⟨y, s2⟩, e2, e⟩ := bnd e
  obtain ⟨j, e3, e⟩ := bnd e
  obtain ⟨z, e4, e⟩ := bnd e
  obtain ⟨⟨q, s3⟩, e5, e⟩ := bnd e
  refine he dk H0 F0 F σ H env st v s0 g e0 _ fun w F0' H0' x0 g0 r0 => ?_
  refine ho dk H0 F0 F0' σ H0' env s0 x s1 g0 e1 _ fun v' F1 H1 x1 g1 r1 => ?_
  refine hi dk H0 F0 F1 σ H1 env s1 y s2 g1 e2 _ fun u F2 H2 x2 g2 r2 => ?_
  have hx : x = .ref j := refOf_eq e3
  subst hx
  have r1' := r1.mono x2.f
  have r0' := (r0.mono x1.f).mono x2.f
  obtain ⟨b, rfl, hb⟩ := r1'.refn
  obtain ⟨C', dx, vs, h1, h2, h3, h4⟩ := g2.wd.insAt hb e4
  have hz : z.1 = c := List.mem_singleton.mp (insAt_eq e4).2
  rw [hz, hC] at h1
  cases h1
  refine ⟨b, dx, _, rfl, h2, rfl, dk, F2, [.ref j, y, v], s2, q, s3, g2.wd, .cons r1' (.cons r2 (.cons r0' .nil)), e5, ?_⟩
  cases q with
  | ok d => cases e; exact fun v F' H' x w r => hd F' σ H' (((x0.f.trans x1.f).trans x2.f).trans x.f) (g2.step x w)
  | xc c f d => cases e; exact Xw.mono hd ((x0.trans x1).trans x2)
/-- n op= e by an own method -/
noncomputable def iopX (i : Nat) (c : Str) (mf : MFX) (fe : ME) : MSX := fun env st => match env[i]? with
  | some (.val (.ref n)) => (fe env st).bind fun p => (insAt [c] p.2 n).bind fun _ => (mf [.ref n, p.1] p.2).bind fun r => match r.1 with
    | .ok d => some (.fl (.nx (env.set i (.val d))), r.2)
    | .xc c g x => some (.xc c g x, r.2)
  | _ => none
theorem isw_iop {i : Nat} {c : Str} {C : Addr} {mf : MFX} {te : TE} {fe : ME} (hC : clsOf K c = some C) (he : Im K te fe) : ImSW K mg W (tIopO i C (spX K mg 2 mf) (WE W) te) (iopX i c mf fe) := fun dk H0 F0 F σ H env st r st' g e E hd => by
  unfold iopX at e
  split at e
  · rename_i n hi
    obtain ⟨⟨y, s1⟩, e1, e⟩ := bnd e
    obtain ⟨z, e4, e⟩ := bnd e
    obtain ⟨⟨q, s3⟩, e5, e⟩ := bnd e
    obtain ⟨v, hv, rv⟩ := g.sl i _ hi
    have hv := join_eq hv
    refine ⟨v, hv, ?_⟩
    refine he dk H0 F0 F σ H env st y s1 g e1 _ fun u F1 H1 x1 g1 r1 => ?_
    have rv' := rv.mono x1.f
    obtain ⟨b, rfl, hb⟩ := rv'.refn
    obtain ⟨C', dx, vs, h1, h2, h3, h4⟩ := g1.wd.insAt hb e4
    have hz : z.1 = c := List.mem_singleton.mp (insAt_eq e4).2
    rw [hz, hC] at h1
    cases h1
    refine ⟨b, dx, _, rfl, h2, rfl, dk, F1, [.ref n, y], s1, q, s3, g1.wd, .cons rv' (.cons r1 .nil), e5, ?_⟩
    cases q with
    | ok d => cases e; exact fun v F' H' x w r => hd F' _ H' (x1.f.trans x.f) ((g1.step x w).set r)
    | xc c f d => cases e; exact Xw.mono hd x1
  · cases e
end
end MD
set_option Elab.async false
set_option linter.all false
set_option maxRecDepth 100000
set_option maxHeartbeats 2000000
namespace MD
open PySem PySem.Spec PyProof.Rows L2
variable {ww : WW}
noncomputable abbrev HdM := Str × (Str → D → MS)
noncomputable def ImHd [WW] (K : Fg) (C : Addr) (o : Option Nat) (ts : TX) (h : Str → D → MS) : Prop := ∀ (dk : Dk) (H0 : Hp) (F0 F : Fz) (σ : L2.St) (H : Hp) (env : Sg) (st : S) (f : Str) (d : D) (v : V) (dx : Option Addr) (fl : Fl) (st' : S), Good K dk H0 F0 F σ H env st → Rp K dk F v d → XdAt f v H dx → h f d env st = some (fl, st') →
  ∀ a, H a = none → ∀ E : Ends, Dn K dk H0 F0 F E st' fl → ts a (.ref C) dx (offO o E) (putO o σ a) H
inductive HsOk [WW] (K : Fg) (mg : Str → Option Value) : List HdM → List HdG → Prop
  | nil : HsOk K mg [] []
  | cons {c : Str} {C : Addr} {h : Str → D → MS} {o : Option Nat} {ts : TX} {hs : List HdM} {l : List HdG} (hm : mg c = some (.ref C)) (x1 : PySem.W.exmOne K (.ref C) (.ref C) = some true)
      (x2 : ∀ c' ∈ hs.map (·.1), ∀ C', mg c' = some (.ref C') → PySem.W.exmOne K (.ref C') (.ref C) = some false) (hh : ImHd K C o ts h) (r : HsOk K mg hs l) : HsOk K mg ((c, h) :: hs) ((.ref C, o, ts) :: l)
noncomputable def tryM (fx : MSX) (hs : List HdM) : MS := fun env st => (fx env st).bind fun p => match p.1 with
  | .fl f => some (f, p.2)
  | .xc c f d => match hs.lookup c with
    | some h => h f d env p.2
    | none => none
noncomputable def tTryG (K : Fg) (tb : WX → TS) (l : List HdG) : TS := fun D σ H => tb (wGen K (fun _ _ _ _ => False) D l) D σ H
section
variable {K : Fg} {mg : Str → Option Value}
theorem hs_go {dk : Dk} {H0 H : Hp} {F0 F : Fz} {σ : L2.St} {env : Sg} {st st' : S} {c f : Str} {C : Addr} {d : D} {v : V} {dx : Option Addr} {fl : Fl} {E : Ends} (g : Good K dk H0 F0 F σ H env st) (rp : Rp K dk F v d) (hx : XdAt f v H dx) (hm : mg c = some (.ref C)) (hd : Dn K dk H0 F0 F E st' fl) :
    ∀ {hs : List HdM} {l : List HdG}, HsOk K mg hs l → ∀ {h : Str → D → MS}, hs.lookup c = some h → h f d env st = some (fl, st') → wGen K (fun _ _ _ _ => False) E l (.ref C) dx σ H := by
  intro hs l k
  induction k with
  | nil => intro h e; cases e
  | @cons c0 C0 h0 o ts hs l hm0 x1 x2 hh r ih =>
    intro h e e2
    rw [List.lookup_cons] at e
    by_cases hc : c = c0
    · subst hc
      rw [beq_self_eq_true] at e
      cases e
      rw [hm] at hm0
      cases hm0
      exact ⟨true, x1, fun _ a ha => hh dk H0 F0 F σ H env st f d v dx fl st' g rp hx e2 a ha E hd, fun z => nomatch z⟩
    · rw [beq_eq_false_iff_ne.mpr hc] at e
      refine ⟨false, x2 c ?_ C hm, (fun z => nomatch z), fun _ => ih e e2⟩
      clear ih r x2
      induction hs with
      | nil => cases e
      | cons p hs ih =>
        rw [List.lookup_cons] at e
        by_cases hp : c = p.1
        · exact List.mem_cons.mpr (.inl hp)
        · rw [beq_eq_false_iff_ne.mpr hp] at e
          exact List.mem_cons.mpr (.inr (ih e))
theorem is_try {tb : WX → TS} {fx : MSX} {hs : List HdM} {l : List HdG} (hx : ∀ W, ImSW K mg W (tb W) fx) (hh : HsOk K mg hs l) : ImS K (tTryG K tb l) (tryM fx hs) := fun dk H0 F0 F σ H env st fl st' g ee E hd => by
  obtain ⟨⟨r, s1⟩, e1, e2⟩ := bnd ee
  refine hx _ dk H0 F0 F σ H env st r s1 g e1 E ?_
  cases r with
  | fl f => cases e2; exact hd
  | xc c f d =>
    dsimp only at e2
    split at e2
    · rename_i h hl
      exact fun C dx v F' H' hm xx w rp hxd => hs_go (g.step xx w) rp hxd hm (Dn.mono xx.f hd) hh hl e2
    · cases e2
theorem hd_bare {t : TS} {fh : MS} {C : Addr} (h : ImS K t fh) : ImHd K C none (fun _ _ _ => t) (fun _ _ => fh) := fun dk H0 F0 F σ H env st f d v dx fl st' g rp hx e a ha E hd => h dk H0 F0 F σ H env st fl st' g e E hd
/-- [s, .., n.f, ..] -/
noncomputable def tasL (C : Addr) (f : Str) (a : Addr) (cls : Value) (dx : Option Addr) (e : Nat) : List (Option Str) → TA
  | [] => tNil
  | some t :: r => tCons (tC (.str t)) (tasL C f a cls dx e r)
  | none :: r => tCons (tByX C f a cls dx (tVar e)) (tasL C f a cls dx e r)
noncomputable def asV (v : V) : Option Str → V
  | some t => .str t
  | none => v
noncomputable def asD (d : D) : Option Str → D
  | some t => .str t
  | none => d
theorem tasL_ok {C : Addr} {f : Str} {a dd : Addr} {e : Nat} {v : V} {σ : L2.St} {H : Hp} (h1 : σ[e]? = some (some (.ref a))) (h2 : H dd = some (.xd [(f, v)])) : ∀ {items : List (Option Str)} {Q : List V → Hp → Prop}, Q (items.map (asV v)) H → tasL C f a (.ref C) (some dd) e items σ H Q
  | [], Q, q => q
  | some t :: r, Q, q => tasL_ok h1 h2 (items := r) q
  | none :: r, Q, q => ⟨_, h1, rfl, rfl, dd, v, rfl, h2, tasL_ok h1 h2 (items := r) q⟩
theorem asRps {dk : Dk} {F : Fz} {v : V} {d : D} (rp : Rp K dk F v d) : ∀ items : List (Option Str), Rps K dk F (items.map (asV v)) (items.map (asD d))
  | [] => .nil
  | some t :: r => .cons (.str t) (asRps rp r)
  | none :: r => .cons rp (asRps rp r)
theorem Good.newL {dk : Dk} {F0 F : Fz} {H0 H : Hp} {σ : L2.St} {env : Sg} {st : S} {j : Nat} {p : Addr} {vs : List V} {ds : List D} (g : Good K dk H0 F0 F σ H env st) (r : Rps K dk F vs ds) (hp : H p = none) :
    ∃ F', Le F F' ∧ Good K dk H0 F0 F' (σ.set j (some (.ref p))) (upd H p (.lst vs)) (env.set j (.val (.lst ds))) st := by
  have px : Px F H (F.up p (.lst vs)) (upd H p (.lst vs)) := Px.new g.wd.sub hp
  exact ⟨_, px.f, (g.px px).set (.lst Fz.up_same (r.mono px.f))⟩
/-- except C as n: found = [.., n.f, ..] -/
noncomputable def suL (C : Addr) (f : Str) (items : List (Option Str)) (j e : Nat) : TX := fun a cls dx => tAsg (tLst (tasL C f a cls dx e items)) (gName j)
noncomputable def asL (f : Str) (items : List (Option Str)) (j e : Nat) : Str → D → MS := fun f' d env st => if e < env.length ∧ f' = f ∧ items.length ≤ 1000 then some (.nx (((env.set e .un).set j (.val (.lst (items.map (asD d))))).set e .un), st) else none
theorem hd_asL {C : Addr} {f : Str} {items : List (Option Str)} {j e : Nat} (hf : f ≠ "" := by decide) : ImHd K C (some e) (suL C f items j e) (asL f items j e) := fun dk H0 F0 F σ H env st f' d v dx fl st' g rp hx ee a ha E hd => by
  unfold asL at ee
  split at ee
  · rename_i hc
    obtain ⟨hl, rfl, hz⟩ := hc
    cases ee
    obtain ⟨dd, rfl, hy⟩ := hx.at_ hf
    have hg : (σ.set e (some (.ref a)))[e]? = some (some (.ref a)) := List.getElem?_set_self (by rw [g.len]; exact hl)
    have g1 := g.unset (i := e) (y := some (.ref a))
    refine tasL_ok hg hy ⟨by rw [List.length_map]; exact Nat.le_trans hz (by decide), fun p hp => ?_⟩
    obtain ⟨F2, le, g2⟩ := g1.newL (j := j) (asRps rp items) hp
    exact hd F2 _ _ le (g2.unset (i := e) (y := none))
  · cases ee
end
structure XN (K : Fg) (mg : Str → Option Value) (c : Str) (C : Addr) : Prop where
  g : mg c = some (.ref C)
  ex : PySem.W.excIn K C [.type "ValueError", .type "Exception", .type "BaseException", .type "object"] "ValueError.__new__" = true
  kc : PySem.W.keepIn K (.ref C) = true
  sb : PySem.W.subIn K (.ref C) (.type "BaseException") = some true
  ty : PySem.W.typeIn K (.ref C) = some (.type "type")
noncomputable def tRaiseN (C : Addr) (W : WX) : TS := fun _ σ H => W (.ref C) none σ H
section
variable {X : Cx} {c : Str} {C : Addr} {W : WX} {p pos pos2 : Pos}
theorem ps_raiseN (hc : X.calm = true) (T : XN X.K X.mg c C) (tk : Takes X W) (hg : Gl X c := by rfl) (hdb : (c == ("__debug__" : Str)) = false := by decide) :
    PS X (.Raise (some (.Call (.Name c p) [] [] pos)) none pos2) (tRaiseN C W) := by
  refine ps_raise (t := fun _ H Q => Q (.ref C) none H) hc tk ?_
  intro pins s σ H Q I h
  refine wpAny_Call_Name_kw (ld_glob I hg T.g ?_ hdb)
  refine PySem.W.callWith_K0 I.kIn T.kc ?_
  show wpAny _ _ (call (.ref C) []) _ _ _
  obtain ⟨bm, N, nm, qn, bs, hdct, sn, sub, ab, col, dd, k0, k1, k2, k3, k5, mN, hC, hN, hni, Tn⟩ := exc_obj I.kIn T.ex
  refine wpAny_call_exc_subT PySem.F.excBase_ValueError Tn hC hN hni (fun h' a hm => ?_) (Nat.zero_le _)
  exact mk_of I hm (raises_own T.sb T.ty) h (I.hok.gone hm.new)
end
section
variable {K : Fg} {mg : Str → Option Value} {W : XK}
noncomputable def raiN (c : Str) : MSX := fun _ st => some (.xc c "" .non, st)
theorem isx_raiseN {c : Str} {C : Addr} (T : XN K mg c C) : ImSX K mg W (tRaiseN C (fun cls d _ H => W cls d H)) (raiN c) := fun dk H0 F0 F σ H env st r st' gd e E hd => by
  cases e
  exact hd C none .non F H T.g gd.ext gd.wd .non rfl
end
end MD
namespace MD
open PySem PySem.Spec PyProof.Rows L2
variable {ww : WW}
noncomputable def CalOX (P : Program) (w : World) (K : Fg) (mg : Str → Option Value) (base : Heap) (k : Nat) (c m : Str) (ps : List Str) (sp : Sp) : Prop :=
  ∃ C : Addr, clsOf K c = some C ∧ ∃ f fd, FnX P w K mg base k f fd ps sp ∧ Meth K C m f ∧ Binds K fd ps [] ∧ PySem.W.fnIn K f = true ∧ PySem.W.noSeq K C = true ∧ PySem.W.selfFirst K C = true
section
variable {X : Cx} {j k : Nat} {ps : List Str} {sp : Sp} {c : Str} {p pos pos' : Pos} {e o i : Expr} {to ti te : TE} {E : L2.St → XK}
theorem pe_getOC (M : CalOX X.prog X.w X.K X.mg X.base j c "__getitem__" ps sp) (hr : Room k X.A) (gd : X.A.guards = some []) (hx : ∀ σ, PassesAt (L2.CX X.prog X.w) X σ (E σ)) (ho : PE X o to) (hi : PE X i ti) (hj : j + 1 ≤ k := by decide)
    (hsl : ∀ x y : Value, subscripted i true x y = runValue (.builtin "lifetime.subscript" ⟨[x, y], []⟩) := by intro _ _; with_unfolding_all rfl) : PE X (.Subscript o i pos) (tGetO M.choose sp E to ti) := by
  obtain ⟨_, f, fd, F, hm, hb, h1, h2, h3⟩ := M.choose_spec
  exact pe_getO ho hi hm h1 F (hr.mono hj) gd hb hx hsl
theorem pg_setOC (M : CalOX X.prog X.w X.K X.mg X.base j c "__setitem__" ps sp) (hr : Room k X.A) (gd : X.A.guards = some []) (hx : ∀ σ, PassesAt (L2.CX X.prog X.w) X σ (E σ)) (ho : PE X o to) (hi : PE X i ti) (hj : j ≤ k := by decide)
    (ha : ∀ v, assign (.Subscript o i pos) X.env v = (do
      let ov ← holding [v] (eval o X.env)
      let iv ← holding [v, ov] (eval i X.env)
      standAt pos
      holding [v, ov, iv] (setItem ov iv v)
      release [v, ov, iv] []) := by intro _; rfl) : PG X (.Subscript o i pos) (gSetO M.choose sp E to ti) := by
  obtain ⟨_, f, fd, F, hm, hb, h1, h2, h3⟩ := M.choose_spec
  exact pg_setO ho hi hm h2 F (hr.mono hj) gd hb hx ha
theorem ps_iopOC {x : Str} {n : Nat} {op : Operator} (M : CalOX X.prog X.w X.K X.mg X.base j c (dunderI op.info.2) ps sp) (hr : Room k X.A) (gd : X.A.guards = some []) (hE : ∀ σ, PassesAt (L2.CX X.prog X.w) X σ (E σ)) (hN : X.N.Nodup) (he : PE X e te) (hi : X.N[n]? = some x := by rfl) (hx : Loc X.env.scope x := by exact Or.inl rfl)
    (hj : j ≤ k := by decide) (hf : X.fn x = true ∨ X.env.scope.names.lookup x = some .local := by first | exact .inl rfl | exact .inr rfl | assumption) : PS X (.AugAssign (.Name x pos') op e pos) (tIopO n M.choose sp E te) := by
  obtain ⟨_, f, fd, F, hm, hb, h1, h2, h3⟩ := M.choose_spec
  exact ps_iopO hN hi hx he hm h3 F (hr.mono hj) gd hb hE hf
end
section
variable {P : Program} {w : World} {K : Fg} {mg mg' : Str → Option Value} {base : Heap} {j : Nat} {c m : Str} {ps : List Str} {W : WX} {te to ti : TE} {fe fo fi : ME} {mf : MFX}
theorem ix_getOC (C : CalOX P w K mg base j c m ps (spX K mg' 2 mf)) (ho : Im K to fo) (hi : Im K ti fi) : ImEX K mg' W (tGetO C.choose (spX K mg' 2 mf) (WE W) to ti) (getOX c mf fo fi) := ix_getO C.choose_spec.1 ho hi
theorem isw_setOC (C : CalOX P w K mg base j c m ps (spX K mg' 3 mf)) (he : Im K te fe) (ho : Im K to fo) (hi : Im K ti fi) : ImSW K mg' W (tAsg te (gSetO C.choose (spX K mg' 3 mf) (WE W) to ti)) (setOX c mf fe fo fi) := isw_setO C.choose_spec.1 he ho hi
theorem isw_iopC {i : Nat} (C : CalOX P w K mg base j c m ps (spX K mg' 2 mf)) (he : Im K te fe) : ImSW K mg' W (tIopO i C.choose (spX K mg' 2 mf) (WE W) te) (iopX i c mf fe) := isw_iop C.choose_spec.1 he
theorem calOX_mk {K' : Fg} {k : Nat} {sp : Sp} {C f : Addr} {fd : FuncData} (h : PySem.W.nsIn K' mainGlobals c = some (some (.ref C))) (F : FnX P w K' mg base k f fd ps sp) (M : Meth K' C m f) (b : Binds K' fd ps []) (h1 : PySem.W.fnIn K' f = true) (h2 : PySem.W.noSeq K' C = true) (h3 : PySem.W.selfFirst K' C = true) : CalOX P w K' mg base k c m ps sp :=
  ⟨C, by unfold clsOf; rw [h], f, fd, F, M, b, h1, h2, h3⟩
end
end MD
set_option Elab.async false
set_option linter.all false
set_option maxRecDepth 100000
set_option maxHeartbeats 2000000
namespace MD
open PySem PySem.Spec PyProof.Rows L2
variable {ww : WW}
noncomputable def FunN (K : Fg) (x qual : Str) (st : Stmt) (kn : List Str) (f : Addr) (fd : FuncData) : Prop := FunD K x qual (defArgs st) (defBody st) (defScope st) [] (kn.map fun n => (n, V.non)) f fd
theorem funN_mk {K : Fg} {x qual : Str} {st : Stmt} {kn : List Str} {f D : Addr} {oc : Value} {od an : Option Addr} {osl : Array (Option Value)} {doc pm cdv ct : Value} (l : K.lookup f = some ⟨oc, od, .func (PySem.W.fnOf x qual (defArgs st) (defBody st) (defScope st) .none (.ref D) doc pm an cdv ct), osl⟩)
    (c : PySem.W.codeIn K cdv qual = true) (k : PySem.W.keepIn K (.ref f) = true) (hn : ∀ q ∈ kn, PySem.W.nsIn K D q = some (some .none)) : FunN K x qual st kn f (PySem.W.fnOf x qual (defArgs st) (defBody st) (defScope st) .none (.ref D) doc pm an cdv ct) := by
  refine ⟨⟨oc, od, .none, .ref D, doc, pm, an, cdv, ct, osl, rfl, l, c, Or.inl ⟨rfl, rfl⟩, Or.inr ⟨D, rfl, fun q hq => ?_⟩⟩, k⟩
  obtain ⟨n, h1, rfl⟩ := List.mem_map.mp hq
  exact ⟨.none, hn n h1, rfl⟩
theorem fnGN_of {P : Program} {w : World} {K : Fg} {mg : Str → Option Value} {base : Heap} {x qual : Str} {st : Stmt} {kn : List Str} {f : Addr} {fd : FuncData} {N ps : List Str} {k : Nat} {sp : Sp} (Fn : FunN K x qual st kn f fd) (S : FnScope N ps (defScope st))
    (len : ∀ vs H Q E, sp vs H Q E → vs.length = ps.length)
    (hbody : ∀ (cdv : Value) (A : Around) (outer : List Env) (s : Shared) (H : Hp) (vs : List V) (Q : VK) (E : XK), Room k (A.deeper (envOfC qual (defScope st) s.heap.objs.size f cdv)) → (A.deeper (envOfC qual (defScope st) s.heap.objs.size f cdv)).guards = some [] → sp vs H Q E →
      ∃ t, PSs (cxOf CX0 P w K mg base N qual (defScope st) f cdv A outer s H E).nox (defBody st) t ∧ t { nx := fun _ H' => Q .non H', rt := Q } (L2.start N vs) H) : FnG P w K mg base (k + 1) f fd ps sp := by
  obtain ⟨oc, od, dV, kV, doc, pm, an, cdv, ct, osl, rfl, lk, hcd, _⟩ := FunD.ex Fn
  refine ⟨len, fun A outer s H args us vs Q E hr gd e0 hb r hsp => ?_⟩
  exact LamX.run_ofS (CX := CX0) (N := N) lk hcd S hr e0 hb r (len _ _ _ _ hsp) fun hr' => by
    obtain ⟨t, ht, hq⟩ := hbody cdv A outer s H vs Q E hr' (guards_deeper _ gd) hsp
    exact ⟨t, ht.nox, hq⟩
section
variable {K : Fg}
theorem fnDN {P : Program} {w : World} {mg : Str → Option Value} {base : Heap} {x qual : Str} {st : Stmt} {kn : List Str} {f : Addr} {fd : FuncData} {N ps : List Str} {k : Nat} {b : MS} (Fn : FunN K x qual st kn f fd) (S : FnScope N ps (defScope st)) (hN : ps.length ≤ N.length)
    (hbody : ∀ (cdv : Value) (A : Around) (outer : List Env) (s : Shared) (H : Hp) (E : XK), Room k (A.deeper (envOfC qual (defScope st) s.heap.objs.size f cdv)) → (A.deeper (envOfC qual (defScope st) s.heap.objs.size f cdv)).guards = some [] →
      ∃ t, PSs (cxOf CX0 P w K mg base N qual (defScope st) f cdv A outer s H E).nox (defBody st) t ∧ ImS K t b) : FnG P w K mg base (k + 1) f fd ps (spD K ps.length (runM N.length b)) := by
  refine fnGN_of Fn S (fun vs H Q E h => h.1) fun cdv A outer s H vs Q E hr gd h => ?_
  obtain ⟨hlv, dk, F, ds, s0, d, s1, wd, r, e, q⟩ := h
  obtain ⟨t, h1, h2⟩ := hbody cdv A outer s H E hr gd
  refine ⟨t, h1, ?_⟩
  obtain ⟨⟨fl, s2⟩, e1, e⟩ := bnd e
  refine h2 dk H F F (L2.start N vs) H _ s0 fl s2 (good_start wd r (by rw [hlv]; exact hN)) e1 _ ?_
  cases fl with
  | rt d' => cases e; exact fun v F' H' x w r => q v F' H' x w r
  | nx en => cases e; exact fun F' σ' H' le g => q .non F' H' g.ext g.wd .non
  | bk en => cases e
  | ct en => cases e
end
noncomputable def CalMN (P : Program) (w : World) (K : Fg) (mg : Str → Option Value) (base : Heap) (k : Nat) (c m : Str) (ps : List Str) (nk : Nat) (sp : Sp) : Prop :=
  ∃ C : Addr, clsOf K c = some C ∧ Cls K C ∧ ∃ f fd ds, FnG P w K mg base k f fd ps sp ∧ Meth K C m f ∧ Vals (List.replicate nk V.non) ds ∧ Binds K fd ps ds
section
variable {X : Cx} {j k : Nat} {f C : Addr} {fd : FuncData} {ps : List Str} {sp : Sp} {c m : Str} {pos apos : Pos} {o : Expr} {ta : TE} {dvs : List V} {ds : List Value}
theorem runGN {pins : List (Addr × Obj)} {σ : L2.St} {H : Hp} {s : Shared} {Q : VK} {us : List Value} {vs : List V} (F : FnG X.prog X.w X.K X.mg X.base k f fd ps sp) (hr : Room k X.A) (gd : X.A.guards = some []) (hb : Binds X.K fd ps ds) (hd : Vals dvs ds)
    (I : L2.Inv X pins σ H s) (r : Vals vs us) (h : sp (vs ++ dvs) H Q E0) : wpAny (model X.prog X.w) X.A (call (.ref f) us) (EP X pins σ Q) X.xe s := by
  have rr := r.append hd
  have hl : (us ++ ds).length = ps.length := rr.length.symm.trans (F.len _ _ _ _ h)
  refine wpAny_call (codeAny_mono (F.run X.A X.stack s H ⟨us, []⟩ (us ++ ds) (vs ++ dvs) Q E0 hr gd I.env0 (hb s us I.kIn hl) rr h) fun rr s' hq => ?_)
  cases rr with
  | error er => exact False.elim hq
  | ok fl =>
    cases fl with
    | ret u => exact I.after hq
    | next => exact False.elim hq
    | brk => exact False.elim hq
    | cont => exact False.elim hq
theorem pe_methN0 {pl : Sem Bool} {nk : Nat} (M : CalMN X.prog X.w X.K X.mg X.base j c m ps nk sp) (hr : Room k X.A) (gd : X.A.guards = some []) (he : PE X o ta) (hj : j ≤ k := by decide)
    (ht : eval (.Call (.Attribute o m apos) [] [] pos) X.env = (do
      let ov ← eval o X.env
      standAt apos.atName
      let (f, first) ← holding [ov] (getMethod ov m pl)
      callWith pos f first (backTo pos (starEach [] X.env)) (backToKw pos (keywordEach [] X.env))) := by rfl) :
    PE X (.Call (.Attribute o m apos) [] [] pos) (tMeth M.choose m sp (List.replicate nk .non) E0 ta tNil) := by
  obtain ⟨_, cl, f, fd, ds, F, hm, hv, hb⟩ := M.choose_spec
  refine ⟨fun pins s σ H Q I h => ?_⟩
  refine PySem.W.methodCall_KW (pl := pl) (thn (he.run pins s σ H _ I h) fun u s1 ⟨x, H1, I1, rx, a, dx, fs, ex, ea, l, q⟩ => ?_) ht
  subst ex
  obtain rfl : u = Value.ref a := rx
  refine getmeth_ok I1 ea cl hm l ?_
  exact PySem.W.callWith_K0 (first := [.ref a]) I1.kIn hm.kp (runGN (us := [.ref a]) (vs := [.ref a]) F (hr.mono hj) gd hb hv I1 (.cons rfl .nil) q)
end
section
variable {K : Fg}
noncomputable def methN0 (c m : Str) (nk : Nat) (mf : MF) (fo : ME) : ME := fun env st => (fo env st).bind fun p => (refOf p.1).bind fun n => (insAt [c] p.2 n).bind fun z => if m ∉ z.2.1 then mf (p.1 :: List.replicate nk .non) p.2 else none
theorem rps_non {dk : Dk} {F : Fz} : ∀ n, Rps K dk F (List.replicate n V.non) (List.replicate n D.non)
  | 0 => .nil
  | n + 1 => .cons .non (rps_non n)
theorem im_methN0 {P : Program} {w : World} {mg : Str → Option Value} {base : Heap} {j nk : Nat} {c m : Str} {ps : List Str} {mf : MF} {to : TE} {fo : ME} (C : CalMN P w K mg base j c m ps nk (spD K (nk + 1) mf)) (ho : Im K to fo) : Im K (tMeth C.choose m (spD K (nk + 1) mf) (List.replicate nk .non) E0 to tNil) (methN0 c m nk mf fo) := fun dk H0 F0 F σ H env st d st' g e Q q => by
  have hC := C.choose_spec.1
  obtain ⟨⟨x, s1⟩, e1, e⟩ := bnd e
  obtain ⟨j, e2, e⟩ := bnd e
  obtain ⟨z, e3, e⟩ := bnd e
  split at e
  · rename_i hm
    refine ho dk H0 F0 F σ H env st x s1 g e1 _ fun v F1 H1 x1 g1 r1 => ?_
    have hx : x = .ref j := refOf_eq e2
    subst hx
    obtain ⟨b, rfl, hb⟩ := r1.refn
    obtain ⟨C', dx, vs, h1, h2, h3, h4⟩ := g1.wd.insAt hb e3
    have hz : z.1 = c := List.mem_singleton.mp (insAt_eq e3).2
    rw [hz, hC] at h1
    cases h1
    refine ⟨b, dx, _, rfl, h2, look_none hm, ?_⟩
    show spD K (nk + 1) mf (V.ref b :: ([] ++ List.replicate nk V.non)) H1 Q E0
    rw [List.nil_append]
    exact ⟨by simp, dk, F1, .ref j :: List.replicate nk .non, s1, d, st', g1.wd, .cons r1 (rps_non nk), e, fun v F' H' x w r => q v F' H' (x1.trans x) (g1.step x w) r⟩
  · cases e
end
theorem calMN_mk {P : Program} {w : World} {K : Fg} {mg : Str → Option Value} {base : Heap} {k nk : Nat} {c m : Str} {ps : List Str} {sp : Sp} {C f : Addr} {fd : FuncData} (h : PySem.W.nsIn K mainGlobals c = some (some (.ref C))) (cl : Cls K C) (F : FnG P w K mg base k f fd ps sp) (M : Meth K C m f)
    (b : ∃ ds, Vals (List.replicate nk V.non) ds ∧ Binds K fd ps ds) : CalMN P w K mg base k c m ps nk sp := by
  obtain ⟨ds, b1, b2⟩ := b
  exact ⟨C, by unfold clsOf; rw [h], cl, f, fd, ds, F, M, b1, b2⟩
/-- def m(self, *, a=None) -/
theorem FunN.binds1 {K : Fg} {x qual a : Str} {st : Stmt} {f : Addr} {fd : FuncData} {ps : List Str} (F : FunN K x qual st [a] f fd) (hn : ps.length = 2)
    (h : ∀ (D : Addr) (doc pm : Value) (an : Option Addr) (cdv ct u k : Value), KwChain D [(a, k)] (bindArgs (PySem.W.fnOf x qual (defArgs st) (defBody st) (defScope st) .none (.ref D) doc pm an cdv ct) ⟨[u], []⟩) (ps.zip [u, k])) : ∃ ds, Vals (List.replicate 1 V.non) ds ∧ Binds K fd ps ds :=
  FunD.binds0 F 1 (by simp) (by rw [hn]; rfl) fun D doc pm an cdv ct us ks hl hk => by
    obtain ⟨u, rfl⟩ := List.length_eq_one_iff.mp hl
    obtain ⟨k, rfl⟩ := List.length_eq_one_iff.mp hk
    exact h D doc pm an cdv ct u k
section
variable {X : Cx} {body : List Stmt} {h₀ : ExceptHandler} {hds : List ExceptHandler} {l : List HdG} {pos : Pos} {tb : WX → TS}
theorem ps_tryG (hs : X.stack = X.env :: X.outer) (hf : X.env.frame = some X.env.locals) (hN : X.N.Nodup)
    (hb : ∀ (W : WX) (pn : List (Addr × Obj)) (xe : Value → Shared → Prop), Takes (X.tr pn xe) W → PassesOwn (model X.prog X.w) X.A X.env xe → PSs (X.tr pn xe) body (tb W))
    (hh : HdsG X (h₀ :: hds) l) : PS X (.Try body (h₀ :: hds) [] [] pos) (tTryG X.K tb l) := ps_try_gen hs hf hN takesNo hb hh
end
theorem hsx0 {K : Fg} {mg : Str → Option Value} {C : Addr} : ∀ c' ∈ ([] : List Str), ∀ C', mg c' = some (.ref C') → PySem.W.exmOne K (.ref C') (.ref C) = some false := fun _ h => nomatch h
theorem hsx {K : Fg} {mg : Str → Option Value} {C C0 : Addr} {c0 : Str} {l : List Str} (hm : mg c0 = some (.ref C0)) (e : PySem.W.exmOne K (.ref C0) (.ref C) = some false) (r : ∀ c' ∈ l, ∀ C', mg c' = some (.ref C') → PySem.W.exmOne K (.ref C') (.ref C) = some false) :
    ∀ c' ∈ c0 :: l, ∀ C', mg c' = some (.ref C') → PySem.W.exmOne K (.ref C') (.ref C) = some false := List.forall_mem_cons.mpr ⟨fun C' h => by rw [hm] at h; cases h; exact e, r⟩
end MD
set_option Elab.async false
set_option linter.all false
set_option maxRecDepth 100000
set_option maxHeartbeats 4000000
namespace Lw
open PySem PySem.Spec PyProof.Rows L2 MD
noncomputable def topS (i : Nat) : Stmt := PySem.Challenge.pw_unitlimits_k08_items_and_operators_of_be.main.body.getD i (.Pass ⟨0, 0, 0, 0⟩)
noncomputable abbrev s__law_deck : Stmt := topS 63
theorem sc__law_deck : FnScope ["_law_script", "_law_cell"] ["_law_script"] (defScope s__law_deck) := ⟨rfl, rfl, rfl, by decide +kernel, rfl, by decide +kernel, by decide +kernel⟩
noncomputable abbrev s__law_draw : Stmt := topS 64
theorem sc__law_draw : FnScope ["_law_deck_here", "_law_many", "_law_cell", "_law_at", "_law_mixed"] ["_law_deck_here", "_law_many"] (defScope s__law_draw) := ⟨rfl, rfl, rfl, by decide +kernel, rfl, by decide +kernel, by decide +kernel⟩
noncomputable abbrev s__law_kind : Stmt := topS 66
theorem sc__law_kind : FnScope ["_law_deck_here", "_law_letters", "_law_most", "_law_many", "_law_rows", "_law_ends", "_law_k", "_law_row", "_law_j"] ["_law_deck_here", "_law_letters", "_law_most"] (defScope s__law_kind) := ⟨rfl, rfl, rfl, by decide +kernel, rfl, by decide +kernel, by decide +kernel⟩
noncomputable abbrev s__law_one : Stmt := topS 65
theorem sc__law_one : FnScope ["_law_deck_here", "_law_items"] ["_law_deck_here", "_law_items"] (defScope s__law_one) := ⟨rfl, rfl, rfl, by decide +kernel, rfl, by decide +kernel, by decide +kernel⟩
noncomputable abbrev s__law_units : Stmt := topS 67
theorem sc__law_units : FnScope ["_law_deck_here", "_law_letters", "_law_found", "_law_k", "_law_j"] ["_law_deck_here", "_law_letters"] (defScope s__law_units) := ⟨rfl, rfl, rfl, by decide +kernel, rfl, by decide +kernel, by decide +kernel⟩
noncomputable abbrev s__law_cut : Stmt := topS 68
theorem sc__law_cut : FnScope ["_law_deck_here", "_law_letters", "_law_units_here", "_law_most", "_law_clings", "_law_letter"] ["_law_deck_here", "_law_letters", "_law_units_here", "_law_most"] (defScope s__law_cut) := ⟨rfl, rfl, rfl, by decide +kernel, rfl, by decide +kernel, by decide +kernel⟩
noncomputable abbrev s__law_scheme : Stmt := topS 69
theorem sc__law_scheme : FnScope ["_law_deck_here", "_law_states", "_law_most", "_law_letters", "_law_kind_here", "_law_units_here", "_law_k"] ["_law_deck_here", "_law_states", "_law_most"] (defScope s__law_scheme) := ⟨rfl, rfl, rfl, by decide +kernel, rfl, by decide +kernel, by decide +kernel⟩
noncomputable abbrev s_is_integer_words : Stmt := topS 41
theorem sc_is_integer_words : FnScope ["value", "least", "most"] ["value", "least", "most"] (defScope s_is_integer_words) := ⟨rfl, rfl, rfl, by decide +kernel, rfl, by decide +kernel, by decide +kernel⟩
noncomputable abbrev s_is_row : Stmt := topS 43
theorem sc_is_row : FnScope ["value", "letters", "many", "item"] ["value", "letters", "many"] (defScope s_is_row) := ⟨rfl, rfl, rfl, by decide +kernel, rfl, by decide +kernel, by decide +kernel⟩
noncomputable abbrev s_are_rows : Stmt := topS 44
theorem sc_are_rows : FnScope ["value", "letters", "row"] ["value", "letters"] (defScope s_are_rows) := ⟨rfl, rfl, rfl, by decide +kernel, rfl, by decide +kernel, by decide +kernel⟩
noncomputable abbrev s_are_ends : Stmt := topS 45
theorem sc_are_ends : FnScope ["value", "many", "end"] ["value", "many"] (defScope s_are_ends) := ⟨rfl, rfl, rfl, by decide +kernel, rfl, by decide +kernel, by decide +kernel⟩
noncomputable abbrev s_kind_error : Stmt := topS 46
theorem sc_kind_error : FnScope ["value"] ["value"] (defScope s_kind_error) := ⟨rfl, rfl, rfl, by decide +kernel, rfl, by decide +kernel, by decide +kernel⟩
noncomputable abbrev s_is_integer_cuts : Stmt := topS 12
theorem sc_is_integer_cuts : FnScope ["value", "least", "most"] ["value", "least", "most"] (defScope s_is_integer_cuts) := ⟨rfl, rfl, rfl, by decide +kernel, rfl, by decide +kernel, by decide +kernel⟩
noncomputable abbrev s_is_cut_limit : Stmt := topS 16
theorem sc_is_cut_limit : FnScope ["units", "value"] ["units", "value"] (defScope s_is_cut_limit) := ⟨rfl, rfl, rfl, by decide +kernel, rfl, by decide +kernel, by decide +kernel⟩
noncomputable abbrev s_are_clinging : Stmt := topS 17
theorem sc_are_clinging : FnScope ["letters", "value", "letter"] ["letters", "value"] (defScope s_are_clinging) := ⟨rfl, rfl, rfl, by decide +kernel, rfl, by decide +kernel, by decide +kernel⟩
noncomputable abbrev s_is_cut : Stmt := topS 18
theorem sc_is_cut : FnScope ["letters", "units", "value"] ["letters", "units", "value"] (defScope s_is_cut) := ⟨rfl, rfl, rfl, by decide +kernel, rfl, by decide +kernel, by decide +kernel⟩
noncomputable abbrev s_cuts_error : Stmt := topS 19
theorem sc_cuts_error : FnScope ["letters", "units", "value", "index", "cut"] ["letters", "units", "value"] (defScope s_cuts_error) := ⟨rfl, rfl, rfl, by decide +kernel, rfl, by decide +kernel, by decide +kernel⟩
noncomputable abbrev s_is_unit : Stmt := topS 14
theorem sc_is_unit : FnScope ["letters", "value", "item"] ["letters", "value"] (defScope s_is_unit) := ⟨rfl, rfl, rfl, by decide +kernel, rfl, by decide +kernel, by decide +kernel⟩
noncomputable abbrev s_are_units : Stmt := topS 15
theorem sc_are_units : FnScope ["letters", "value", "unit"] ["letters", "value"] (defScope s_are_units) := ⟨rfl, rfl, rfl, by decide +kernel, rfl, by decide +kernel, by decide +kernel⟩
noncomputable abbrev s_scheme_error : Stmt := topS 49
theorem sc_scheme_error : FnScope ["value", "kind", "units", "cuts", "error"] ["value"] (defScope s_scheme_error) := ⟨rfl, rfl, rfl, by decide +kernel, rfl, by decide +kernel, by decide +kernel⟩
noncomputable abbrev s_need_scheme : Stmt := topS 52
theorem sc_need_scheme : FnScope ["value", "error"] ["value"] (defScope s_need_scheme) := ⟨rfl, rfl, rfl, by decide +kernel, rfl, by decide +kernel, by decide +kernel⟩
noncomputable abbrev s_Bench___init__ : Stmt := inClass (topS 60) 1
theorem sc_Bench___init__ : FnScope ["self", "kind", "units", "cuts"] ["self", "kind", "units", "cuts"] (defScope s_Bench___init__) := ⟨rfl, rfl, rfl, by decide +kernel, rfl, by decide +kernel, by decide +kernel⟩
noncomputable abbrev s__law_index : Stmt := topS 75
theorem sc__law_index : FnScope ["_law_deck_here", "_law_many"] ["_law_deck_here", "_law_many"] (defScope s__law_index) := ⟨rfl, rfl, rfl, by decide +kernel, rfl, by decide +kernel, by decide +kernel⟩
noncomputable abbrev s__law_some : Stmt := topS 74
theorem sc__law_some : FnScope ["_law_deck_here", "_law_shape", "_law_odd"] ["_law_deck_here", "_law_shape"] (defScope s__law_some) := ⟨rfl, rfl, rfl, by decide +kernel, rfl, by decide +kernel, by decide +kernel⟩
noncomputable abbrev s__law_edit : Stmt := topS 76
theorem sc__law_edit : FnScope ["_law_deck_here", "_law_shape", "_law_cuts", "_law_word", "_law_index_here"] ["_law_deck_here", "_law_shape", "_law_cuts"] (defScope s__law_edit) := ⟨rfl, rfl, rfl, by decide +kernel, rfl, by decide +kernel, by decide +kernel⟩
noncomputable abbrev s__law_is_number : Stmt := topS 70
theorem sc__law_is_number : FnScope ["_law_value", "_law_least", "_law_most"] ["_law_value", "_law_least", "_law_most"] (defScope s__law_is_number) := ⟨rfl, rfl, rfl, by decide +kernel, rfl, by decide +kernel, by decide +kernel⟩
noncomputable abbrev s__law_backed : Stmt := topS 80
theorem sc__law_backed : FnScope ["_law_steps", "_law_undone", "_law_way", "_law_source", "_law_target"] ["_law_steps", "_law_undone", "_law_way"] (defScope s__law_backed) := ⟨rfl, rfl, rfl, by decide +kernel, rfl, by decide +kernel, by decide +kernel⟩
noncomputable abbrev s_Bench_idle : Stmt := inClass (topS 60) 3
theorem sc_Bench_idle : FnScope ["self"] ["self"] (defScope s_Bench_idle) := ⟨rfl, rfl, rfl, by decide +kernel, rfl, by decide +kernel, by decide +kernel⟩
noncomputable abbrev s_Bench_stand : Stmt := inClass (topS 60) 2
theorem sc_Bench_stand : FnScope ["self", "standing"] ["self", "standing"] (defScope s_Bench_stand) := ⟨rfl, rfl, rfl, by decide +kernel, rfl, by decide +kernel, by decide +kernel⟩
noncomputable abbrev s_Bench_undo : Stmt := inClass (topS 60) 18
theorem sc_Bench_undo : FnScope ["self"] ["self"] (defScope s_Bench_undo) := ⟨rfl, rfl, rfl, by decide +kernel, rfl, by decide +kernel, by decide +kernel⟩
noncomputable abbrev s_Bench_redo : Stmt := inClass (topS 60) 19
theorem sc_Bench_redo : FnScope ["self", "last"] ["self"] (defScope s_Bench_redo) := ⟨rfl, rfl, rfl, by decide +kernel, rfl, by decide +kernel, by decide +kernel⟩
noncomputable abbrev s__law_back : Stmt := topS 77
theorem sc__law_back : FnScope ["_law_bench", "_law_word", "_law_found"] ["_law_bench", "_law_word"] (defScope s__law_back) := ⟨rfl, rfl, rfl, by decide +kernel, rfl, by decide +kernel, by decide +kernel⟩
noncomputable abbrev s_is_whole : Stmt := topS 51
theorem sc_is_whole : FnScope ["value", "least", "most"] ["value", "least", "most"] (defScope s_is_whole) := ⟨rfl, rfl, rfl, by decide +kernel, rfl, by decide +kernel, by decide +kernel⟩
noncomputable abbrev s_cut_at : Stmt := topS 56
theorem sc_cut_at : FnScope ["cuts", "index"] ["cuts", "index"] (defScope s_cut_at) := ⟨rfl, rfl, rfl, by decide +kernel, rfl, by decide +kernel, by decide +kernel⟩
noncomputable abbrev s_Bench___getitem__ : Stmt := inClass (topS 60) 13
theorem sc_Bench___getitem__ : FnScope ["self", "index"] ["self", "index"] (defScope s_Bench___getitem__) := ⟨rfl, rfl, rfl, by decide +kernel, rfl, by decide +kernel, by decide +kernel⟩
noncomputable abbrev s__law_got : Stmt := topS 79
theorem sc__law_got : FnScope ["_law_bench", "_law_index_here", "_law_found", "_law_error"] ["_law_bench", "_law_index_here"] (defScope s__law_got) := ⟨rfl, rfl, rfl, by decide +kernel, rfl, by decide +kernel, by decide +kernel⟩
noncomputable abbrev s__law_is_cut : Stmt := topS 71
theorem sc__law_is_cut : FnScope ["_law_letters", "_law_units_here", "_law_value", "_law_letter"] ["_law_letters", "_law_units_here", "_law_value"] (defScope s__law_is_cut) := ⟨rfl, rfl, rfl, by decide +kernel, rfl, by decide +kernel, by decide +kernel⟩
noncomputable abbrev s__law_cuts_error : Stmt := topS 72
theorem sc__law_cuts_error : FnScope ["_law_letters", "_law_units_here", "_law_value", "_law_index_here"] ["_law_letters", "_law_units_here", "_law_value"] (defScope s__law_cuts_error) := ⟨rfl, rfl, rfl, by decide +kernel, rfl, by decide +kernel, by decide +kernel⟩
noncomputable abbrev s__law_due : Stmt := topS 73
theorem sc__law_due : FnScope ["_law_shape", "_law_cuts", "_law_edit_here", "_law_word", "_law_value", "_law_after", "_law_error"] ["_law_shape", "_law_cuts", "_law_edit_here"] (defScope s__law_due) := ⟨rfl, rfl, rfl, by decide +kernel, rfl, by decide +kernel, by decide +kernel⟩
noncomputable abbrev s_Bench_ready : Stmt := inClass (topS 60) 4
theorem sc_Bench_ready : FnScope ["self"] ["self"] (defScope s_Bench_ready) := ⟨rfl, rfl, rfl, by decide +kernel, rfl, by decide +kernel, by decide +kernel⟩
noncomputable abbrev s_Bench_judge : Stmt := inClass (topS 60) 5
theorem sc_Bench_judge : FnScope ["self", "cuts"] ["self", "cuts"] (defScope s_Bench_judge) := ⟨rfl, rfl, rfl, by decide +kernel, rfl, by decide +kernel, by decide +kernel⟩
noncomputable abbrev s_Bench_settle : Stmt := inClass (topS 60) 6
theorem sc_Bench_settle : FnScope ["self", "edit", "cuts"] ["self", "edit", "cuts"] (defScope s_Bench_settle) := ⟨rfl, rfl, rfl, by decide +kernel, rfl, by decide +kernel, by decide +kernel⟩
noncomputable abbrev s_need_cuts : Stmt := topS 55
theorem sc_need_cuts : FnScope ["letters", "units", "value", "error"] ["letters", "units", "value"] (defScope s_need_cuts) := ⟨rfl, rfl, rfl, by decide +kernel, rfl, by decide +kernel, by decide +kernel⟩
noncomputable abbrev s_lifted : Stmt := topS 57
theorem sc_lifted : FnScope ["cuts", "index"] ["cuts", "index"] (defScope s_lifted) := ⟨rfl, rfl, rfl, by decide +kernel, rfl, by decide +kernel, by decide +kernel⟩
noncomputable abbrev s_edited : Stmt := topS 58
theorem sc_edited : FnScope ["letters", "units", "cuts", "edit", "word", "value", "cut", "fresh"] ["letters", "units", "cuts", "edit"] (defScope s_edited) := ⟨rfl, rfl, rfl, by decide +kernel, rfl, by decide +kernel, by decide +kernel⟩
noncomputable abbrev s_Bench_do : Stmt := inClass (topS 60) 7
theorem sc_Bench_do : FnScope ["self", "edit"] ["self", "edit"] (defScope s_Bench_do) := ⟨rfl, rfl, rfl, by decide +kernel, rfl, by decide +kernel, by decide +kernel⟩
noncomputable abbrev s_Bench_add : Stmt := inClass (topS 60) 8
theorem sc_Bench_add : FnScope ["self", "cut"] ["self", "cut"] (defScope s_Bench_add) := ⟨rfl, rfl, rfl, by decide +kernel, rfl, by decide +kernel, by decide +kernel⟩
noncomputable abbrev s_Bench___iadd__ : Stmt := inClass (topS 60) 16
theorem sc_Bench___iadd__ : FnScope ["self", "cut"] ["self", "cut"] (defScope s_Bench___iadd__) := ⟨rfl, rfl, rfl, by decide +kernel, rfl, by decide +kernel, by decide +kernel⟩
noncomputable abbrev s_Bench_drop : Stmt := inClass (topS 60) 9
theorem sc_Bench_drop : FnScope ["self", "index"] ["self", "index"] (defScope s_Bench_drop) := ⟨rfl, rfl, rfl, by decide +kernel, rfl, by decide +kernel, by decide +kernel⟩
noncomputable abbrev s_Bench___isub__ : Stmt := inClass (topS 60) 17
theorem sc_Bench___isub__ : FnScope ["self", "index"] ["self", "index"] (defScope s_Bench___isub__) := ⟨rfl, rfl, rfl, by decide +kernel, rfl, by decide +kernel, by decide +kernel⟩
noncomputable abbrev s_Bench___len__ : Stmt := inClass (topS 60) 27
theorem sc_Bench___len__ : FnScope ["self"] ["self"] (defScope s_Bench___len__) := ⟨rfl, rfl, rfl, by decide +kernel, rfl, by decide +kernel, by decide +kernel⟩
noncomputable abbrev s_Bench_change : Stmt := inClass (topS 60) 10
theorem sc_Bench_change : FnScope ["self", "index", "cut"] ["self", "index", "cut"] (defScope s_Bench_change) := ⟨rfl, rfl, rfl, by decide +kernel, rfl, by decide +kernel, by decide +kernel⟩
noncomputable abbrev s_Bench___setitem__ : Stmt := inClass (topS 60) 15
theorem sc_Bench___setitem__ : FnScope ["self", "index", "cut"] ["self", "index", "cut"] (defScope s_Bench___setitem__) := ⟨rfl, rfl, rfl, by decide +kernel, rfl, by decide +kernel, by decide +kernel⟩
noncomputable abbrev s__law_by_item : Stmt := topS 78
theorem sc__law_by_item : FnScope ["_law_bench", "_law_edit_here", "_law_held", "_law_found", "_law_error"] ["_law_bench", "_law_edit_here"] (defScope s__law_by_item) := ⟨rfl, rfl, rfl, by decide +kernel, rfl, by decide +kernel, by decide +kernel⟩
noncomputable abbrev s_Bench_state : Stmt := inClass (topS 60) 25
theorem sc_Bench_state : FnScope ["self", "version"] ["self", "version"] (defScope s_Bench_state) := ⟨rfl, rfl, rfl, by decide +kernel, rfl, by decide +kernel, by decide +kernel⟩
noncomputable abbrev s_Bench_edits : Stmt := inClass (topS 60) 26
theorem sc_Bench_edits : FnScope ["self", "edit", "cuts"] ["self"] (defScope s_Bench_edits) := ⟨rfl, rfl, rfl, by decide +kernel, rfl, by decide +kernel, by decide +kernel⟩
noncomputable abbrev s_law : Stmt := topS 81
theorem sc_law : FnScope ["_law_script", "_law_deck_here", "_law_kind_here", "_law_units_here", "_law_cuts", "_law_steps", "_law_undone", "_law_bench", "_law_shape", "_law_turn", "_law_now", "_law_many", "_law_index_here", "_law_due_here", "_law_edit_here", "_law_way", "_law_found", "_law_edits", "_law_step"] ["_law_script"] (defScope s_law) := ⟨rfl, rfl, rfl, by decide +kernel, rfl, by decide +kernel, by decide +kernel⟩
noncomputable abbrev s_NoCut___init__ : Stmt := inClass (topS 38) 0
theorem sc_NoCut___init__ : FnScope ["self", "index"] ["self", "index"] (defScope s_NoCut___init__) := ⟨rfl, rfl, rfl, by decide +kernel, rfl, by decide +kernel, by decide +kernel⟩
noncomputable abbrev s_BadCuts___init__ : Stmt := inClass (topS 30) 0
theorem sc_BadCuts___init__ : FnScope ["self", "error"] ["self", "error"] (defScope s_BadCuts___init__) := ⟨rfl, rfl, rfl, by decide +kernel, rfl, by decide +kernel, by decide +kernel⟩
structure Txt (K : Fg) (mg : Str → Option Value) : Prop where
  n_range : mg "range" = none
  n_tuple : mg "tuple" = none
  n_len : mg "len" = none
  n_isinstance : mg "isinstance" = none
  n_int : mg "int" = none
  n_bool : mg "bool" = none
  c_MAX_STATES : ∃ t, mg "MAX_STATES" = some (.int 8 t)
  c_MAX_LETTERS : ∃ t, mg "MAX_LETTERS" = some (.int 4 t)
  c_MAX_CUT : ∃ t, mg "MAX_CUT" = some (.int 20 t)
  n_str : mg "str" = none
  c_LETTERS_limits : ∃ t, mg "LETTERS_limits" = some (.str "abcd" t)
  n_enumerate : mg "enumerate" = none
  c_MAX_CUTS : ∃ t, mg "MAX_CUTS" = some (.int 3 t)
  c_MAX_COUNT : ∃ t, mg "MAX_COUNT" = some (.int 9 t)
  cl_Bench : ClsOk K "Bench" ["kind", "units", "cuts", "begun", "standing", "undone", "is_watched"]
  c_MAX_EDITS : ∃ t, mg "MAX_EDITS" = some (.int 60 t)
  n_repr : mg "repr" = none
  n_abs : mg "abs" = none
noncomputable def dc : DC := ⟨2147483563, 8117, 3, 2147483629⟩
noncomputable def m__law_draw : MF := drawM dc
noncomputable def b__law_kind : MS :=
 (seqM (asgM (tupT 3 (consT (nameT 3) (consT (nameT 4) (consT (nameT 5) nilT)))) (tupM (aCons (opM addM (cst (.int 1)) (callM m__law_draw (aCons (rd 0) (aCons (rd 2) aNil)))) (aCons (stoL (lstM aNil)) (aCons (stoL (lstM aNil)) aNil)))))
 (seqM (forM (r1M (aCons (rd 3) aNil)) (nameT 6)
 (seqM (asgM (nameT 7) (frz (compM (r1M (aCons (rd 1) aNil)) (nameT 8) yesM (ifM (tstM (opM eqM (callM m__law_draw (aCons (rd 0) (aCons (cst (.int 5)) aNil))) (cst (.int 0)))) (cst .non) (callM m__law_draw (aCons (rd 0) (aCons (rd 3) aNil)))) [8])))
 (seqM (sappM (rd 4) (cbM tupleM (aCons (rd 7) aNil)))
 (sappM (rd 5) (opM gtM (callM m__law_draw (aCons (rd 0) (aCons (cst (.int 3)) aNil))) (cst (.int 0)))))))
 (retM (tupM (aCons (rd 1) (aCons (cbM tupleM (aCons (rd 4) aNil)) (aCons (cbM tupleM (aCons (rd 5) aNil)) aNil)))))))
noncomputable def m__law_kind : MF := runM 9 b__law_kind
noncomputable def b__law_one : MS :=
 (retM (opM subD (rd 1) (callM m__law_draw (aCons (rd 0) (aCons (cbM lenA (aCons (rd 1) aNil)) aNil)))))
noncomputable def m__law_one : MF := runM 2 b__law_one
noncomputable def b__law_units : MS :=
 (seqM (ownM 2 (lstM aNil))
 (seqM (forM (r1M (aCons (opM addM (cst (.int 1)) (callM m__law_draw (aCons (rd 0) (aCons (cst (.int 2)) aNil)))) aNil)) (nameT 3)
 (appM 2 (cbM tupleM (aCons (frz (compM (r1M (aCons (rd 1) aNil)) (nameT 4) yesM (callM m__law_one (aCons (rd 0) (aCons (frz (lstM (aCons (cst (.int 1)) (aCons (cst (.int 1)) (aCons (cst (.int 1)) (aCons (cst (.int 2)) (aCons (cst (.int 3)) (aCons (cst (.int 0)) (aCons (cst (.int 4)) (aCons (cst (.int 9)) aNil)))))))))) aNil))) [4])) aNil))))
 (retM (cbM tupleM (aCons (rdW 2) aNil)))))
noncomputable def m__law_units : MF := runM 5 b__law_units
noncomputable def b__law_cut : MS :=
 (seqM (asgM (nameT 4) (m1M joinM (cst (.str "")) (frz (compM (seqI (slM slAny (cst (.str "abcd")) noP (prt (rd 1)))) (nameT 5) (tstM (opM eqM (callM m__law_draw (aCons (rd 0) (aCons (cst (.int 4)) aNil))) (cst (.int 0)))) (rd 5) [5]))))
 (retM (tupM (aCons (callM m__law_draw (aCons (rd 0) (aCons (cbM lenA (aCons (rd 2) aNil)) aNil))) (aCons (callM m__law_draw (aCons (rd 0) (aCons (opM addM (rd 3) (cst (.int 1))) aNil))) (aCons (rd 4) aNil))))))
noncomputable def m__law_cut : MF := runM 6 b__law_cut
noncomputable def b__law_scheme : MS :=
 (seqM (asgM (nameT 3) (opM addM (cst (.int 1)) (callM m__law_draw (aCons (rd 0) (aCons (cst (.int 4)) aNil)))))
 (seqM (asgM (tupT 2 (consT (nameT 4) (consT (nameT 5) nilT))) (tupM (aCons (callM m__law_kind (aCons (rd 0) (aCons (rd 3) (aCons (rd 1) aNil)))) (aCons (callM m__law_units (aCons (rd 0) (aCons (rd 3) aNil))) aNil))))
 (retM (tupM (aCons (rd 4) (aCons (rd 5) (aCons (cbM tupleM (aCons (frz (compM (r1M (aCons (callM m__law_draw (aCons (rd 0) (aCons (cst (.int 4)) aNil))) aNil)) (nameT 6) yesM (callM m__law_cut (aCons (rd 0) (aCons (rd 3) (aCons (rd 5) (aCons (rd 2) aNil))))) [6])) aNil)) aNil)))))))
noncomputable def m__law_scheme : MF := runM 7 b__law_scheme
noncomputable def b_is_integer_words : MS :=
 (retM (andV (isiM "int" (rd 0)) (andV (notV (isiM "bool" (rd 0))) (chM leM leM (rd 1) (rd 0) (rd 2)))))
noncomputable def m_is_integer_words : MF := runM 3 b_is_integer_words
noncomputable def b_is_row : MS :=
 (seqM (ifS (orM (notM (truM (isiM "tuple" (rd 0)))) (tstM (opM neM (cbM lenA (aCons (rd 0) aNil)) (rd 1))))
 (retM (cst (.bl false)))
 nxM)
 (retM (opM eqM (frz (compM (seqI (rd 0)) (nameT 3) (andM (tstM (opM isNotM (rd 3) (cst .non))) (notM (truM (callM m_is_integer_words (aCons (rd 3) (aCons (cst (.int 0)) (aCons (opM subM (rd 2) (cst (.int 1))) aNil))))))) (rd 3) [3])) (frz (lstM aNil)))))
noncomputable def m_is_row : MF := runM 4 b_is_row
noncomputable def b_are_rows : MS :=
 (seqM (ifS (orM (notM (truM (isiM "tuple" (rd 0)))) (notM (tstM (chM leM leM (cst (.int 1)) (cbM lenA (aCons (rd 0) aNil)) (cst (.int 8))))))
 (retM (cst (.bl false)))
 nxM)
 (retM (opM eqM (frz (compM (seqI (rd 0)) (nameT 2) (notM (truM (callM m_is_row (aCons (rd 2) (aCons (rd 1) (aCons (cbM lenA (aCons (rd 0) aNil)) aNil)))))) (rd 2) [2])) (frz (lstM aNil)))))
noncomputable def m_are_rows : MF := runM 3 b_are_rows
noncomputable def b_are_ends : MS :=
 (seqM (ifS (orM (notM (truM (isiM "tuple" (rd 0)))) (tstM (opM neM (cbM lenA (aCons (rd 0) aNil)) (rd 1))))
 (retM (cst (.bl false)))
 nxM)
 (retM (opM eqM (frz (compM (seqI (rd 0)) (nameT 2) (notM (truM (isiM "bool" (rd 2)))) (rd 2) [2])) (frz (lstM aNil)))))
noncomputable def m_are_ends : MF := runM 3 b_are_ends
noncomputable def b_kind_error : MS :=
 (seqM (ifS (orM (notM (truM (isiM "tuple" (rd 0)))) (tstM (opM neM (cbM lenA (aCons (rd 0) aNil)) (cst (.int 3)))))
 (retM (cst (.str "kind")))
 nxM)
 (seqM (ifS (notM (truM (callM m_is_integer_words (aCons (opM subD (rd 0) (cst (.int 0))) (aCons (cst (.int 1)) (aCons (cst (.int 4)) aNil))))))
 (retM (cst (.str "letters")))
 nxM)
 (seqM (ifS (notM (truM (callM m_are_rows (aCons (opM subD (rd 0) (cst (.int 1))) (aCons (opM subD (rd 0) (cst (.int 0))) aNil)))))
 (retM (cst (.str "rows")))
 nxM)
 (retM (ifM (truM (callM m_are_ends (aCons (opM subD (rd 0) (cst (.int 2))) (aCons (cbM lenA (aCons (opM subD (rd 0) (cst (.int 1))) aNil)) aNil)))) (cst .non) (cst (.str "ends")))))))
noncomputable def m_kind_error : MF := runM 1 b_kind_error
noncomputable def b_is_integer_cuts : MS :=
 (retM (andV (isiM "int" (rd 0)) (andV (notV (isiM "bool" (rd 0))) (chM leM leM (rd 1) (rd 0) (rd 2)))))
noncomputable def m_is_integer_cuts : MF := runM 3 b_is_integer_cuts
noncomputable def b_is_cut_limit : MS :=
 (seqM (ifS (orM (notM (truM (isiM "tuple" (rd 1)))) (tstM (opM neM (cbM lenA (aCons (rd 1) aNil)) (cst (.int 2)))))
 (retM (cst (.bl false)))
 nxM)
 (retM (andV (callM m_is_integer_cuts (aCons (opM subD (rd 1) (cst (.int 0))) (aCons (cst (.int 0)) (aCons (opM subM (cbM lenA (aCons (rd 0) aNil)) (cst (.int 1))) aNil)))) (callM m_is_integer_cuts (aCons (opM subD (rd 1) (cst (.int 1))) (aCons (cst (.int 0)) (aCons (cst (.int 20)) aNil)))))))
noncomputable def m_is_cut_limit : MF := runM 2 b_is_cut_limit
noncomputable def b_are_clinging : MS :=
 (seqM (ifS (notM (truM (isiM "str" (rd 1))))
 (retM (cst (.bl false)))
 nxM)
 (retM (opM eqM (rd 1) (m1M joinM (cst (.str "")) (frz (compM (seqI (slM slAny (cst (.str "abcd")) noP (prt (rd 0)))) (nameT 2) (tstM (opM (cntD false) (rd 2) (rd 1))) (rd 2) [2]))))))
noncomputable def m_are_clinging : MF := runM 3 b_are_clinging
noncomputable def b_is_cut : MS :=
 (seqM (ifS (orM (notM (truM (isiM "tuple" (rd 2)))) (tstM (opM neM (cbM lenA (aCons (rd 2) aNil)) (cst (.int 3)))))
 (retM (cst (.bl false)))
 nxM)
 (retM (andV (callM m_is_cut_limit (aCons (rd 1) (aCons (slM slAny (rd 2) noP (prt (cst (.int 2)))) aNil))) (callM m_are_clinging (aCons (rd 0) (aCons (opM subD (rd 2) (cst (.int 2))) aNil))))))
noncomputable def m_is_cut : MF := runM 3 b_is_cut
noncomputable def b_cuts_error : MS :=
 (seqM (ifS (notM (truM (isiM "tuple" (rd 2))))
 (retM (tupM (aCons (cst .non) (aCons (cst (.str "cuts")) aNil))))
 nxM)
 (seqM (forM (enumI (rd 2)) (tupT 2 (consT (nameT 3) (consT (nameT 4) nilT)))
 (ifS (notM (truM (callM m_is_cut (aCons (rd 0) (aCons (rd 1) (aCons (rd 4) aNil))))))
 (retM (tupM (aCons (rd 3) (aCons (cst (.str "cut")) aNil))))
 nxM))
 (retM (ifM (tstM (opM gtM (cbM lenA (aCons (rd 2) aNil)) (cst (.int 3)))) (tupM (aCons (cst .non) (aCons (cst (.str "many")) aNil))) (cst .non)))))
noncomputable def m_cuts_error : MF := runM 5 b_cuts_error
noncomputable def b_is_unit : MS :=
 (seqM (ifS (orM (notM (truM (isiM "tuple" (rd 1)))) (tstM (opM neM (cbM lenA (aCons (rd 1) aNil)) (rd 0))))
 (retM (cst (.bl false)))
 nxM)
 (retM (opM eqM (frz (compM (seqI (rd 1)) (nameT 2) (notM (truM (callM m_is_integer_cuts (aCons (rd 2) (aCons (cst (.int 0)) (aCons (cst (.int 9)) aNil)))))) (rd 2) [2])) (frz (lstM aNil)))))
noncomputable def m_is_unit : MF := runM 3 b_is_unit
noncomputable def b_are_units : MS :=
 (seqM (ifS (orM (notM (truM (isiM "tuple" (rd 1)))) (notM (tstM (chM leM leM (cst (.int 1)) (cbM lenA (aCons (rd 1) aNil)) (cst (.int 2))))))
 (retM (cst (.bl false)))
 nxM)
 (retM (opM eqM (frz (compM (seqI (rd 1)) (nameT 2) (notM (truM (callM m_is_unit (aCons (rd 0) (aCons (rd 2) aNil))))) (rd 2) [2])) (frz (lstM aNil)))))
noncomputable def m_are_units : MF := runM 3 b_are_units
noncomputable def b_scheme_error : MS :=
 (seqM (ifS (orM (notM (truM (isiM "tuple" (rd 0)))) (tstM (opM neM (cbM lenA (aCons (rd 0) aNil)) (cst (.int 3)))))
 (retM (tupM (aCons (cst (.str "scheme")) (aCons (cst .non) aNil))))
 nxM)
 (seqM (asgM (tupT 3 (consT (nameT 1) (consT (nameT 2) (consT (nameT 3) nilT)))) (rd 0))
 (seqM (asgM (nameT 4) (callM m_kind_error (aCons (rd 1) aNil)))
 (seqM (ifS (tstM (opM isNotM (rd 4) (cst .non)))
 (retM (tupM (aCons (cst (.str "kind")) (aCons (rd 4) aNil))))
 nxM)
 (seqM (ifS (notM (truM (callM m_are_units (aCons (opM subD (rd 1) (cst (.int 0))) (aCons (rd 2) aNil)))))
 (retM (tupM (aCons (cst (.str "units")) (aCons (cst .non) aNil))))
 nxM)
 (seqM (asgM (nameT 4) (callM m_cuts_error (aCons (opM subD (rd 1) (cst (.int 0))) (aCons (rd 2) (aCons (rd 3) aNil)))))
 (retM (ifM (tstM (opM isM (rd 4) (cst .non))) (cst .non) (tupM (aCons (cst (.str "cuts")) (aCons (rd 4) aNil)))))))))))
noncomputable def m_scheme_error : MF := runM 5 b_scheme_error
noncomputable def b_need_scheme : MS :=
 (seqM (asgM (nameT 1) (callM m_scheme_error (aCons (rd 0) aNil)))
 (ifS (tstM (opM isNotM (rd 1) (cst .non)))
 stkM
 nxM))
noncomputable def m_need_scheme : MF := runM 2 b_need_scheme
noncomputable def b_Bench___init__ : MS :=
 (seqM (dropM (callM m_need_scheme (aCons (tupM (aCons (rd 1) (aCons (rd 2) (aCons (rd 3) aNil)))) aNil)))
 (seqM (setM ["Bench"] "kind" (rd 0) (rd 1))
 (seqM (setM ["Bench"] "units" (rd 0) (rd 2))
 (seqM (setM ["Bench"] "cuts" (rd 0) (rd 3))
 (seqM (setM ["Bench"] "begun" (rd 0) (rd 3))
 (seqM (setM ["Bench"] "standing" (rd 0) (frz (lstM aNil)))
 (seqM (setM ["Bench"] "undone" (rd 0) (frz (lstM aNil)))
 (setM ["Bench"] "is_watched" (rd 0) (cst (.bl false))))))))))
noncomputable def m_Bench___init__ : MF := runM 4 b_Bench___init__
noncomputable def b__law_index : MS :=
 (seqM (ifS (andM (tstM (opM gtM (rd 1) (cst (.int 0)))) (tstM (opM gtM (callM m__law_draw (aCons (rd 0) (aCons (cst (.int 6)) aNil))) (cst (.int 0)))))
 (retM (callM m__law_draw (aCons (rd 0) (aCons (rd 1) aNil))))
 nxM)
 (retM (callM m__law_one (aCons (rd 0) (aCons (frz (lstM (aCons (rd 1) (aCons (unM (unI fun i => .int (-i)) (cst (.int 1))) (aCons (cst (.bl true)) (aCons (cst .non) (aCons (cst (.str "0")) (aCons (tupM (aCons (cst (.int 0)) aNil)) (aCons (frz (lstM (aCons (cst (.int 0)) aNil))) (aCons (opM powM (cst (.int 10)) (cst (.int 30))) (aCons (frzK newK) (aCons (tupM aNil) aNil)))))))))))) aNil)))))
noncomputable def m__law_index : MF := runM 2 b__law_index
noncomputable def b__law_some : MS :=
 (seqM (ifS (tstM (opM eqM (callM m__law_draw (aCons (rd 0) (aCons (cst (.int 7)) aNil))) (cst (.int 0))))
 (seqM (asgM (nameT 2) (frz (lstM (aCons (cst .non) (aCons (cst (.str "0")) (aCons (tupM (aCons (cst (.int 0)) (aCons (cst (.int 1)) aNil))) (aCons (tupM (aCons (cst (.int 0)) (aCons (cst (.int 1)) (aCons (cst (.str "")) (aCons (cst (.str "")) aNil))))) (aCons (frz (lstM (aCons (cst (.int 0)) (aCons (cst (.int 1)) (aCons (cst (.str "")) aNil))))) (aCons (tupM (aCons (cst (.int 0)) (aCons (cst (.int 21)) (aCons (cst (.str "")) aNil)))) (aCons (tupM (aCons (cst (.int 2)) (aCons (cst (.int 1)) (aCons (cst (.str "")) aNil)))) (aCons (tupM (aCons (cst (.int 0)) (aCons (unM (unI fun i => .int (-i)) (cst (.int 1))) (aCons (cst (.str "")) aNil)))) (aCons (tupM (aCons (cst (.bl true)) (aCons (cst (.int 1)) (aCons (cst (.str "")) aNil)))) aNil))))))))))))
 (seqM (asgM (nameT 2) (opM addM (rd 2) (frz (lstM (aCons (tupM (aCons (cst (.int 0)) (aCons (cst (.bl true)) (aCons (cst (.str "")) aNil)))) (aCons (tupM (aCons (cst (.int 0)) (aCons (cst (.int 1)) (aCons (cst .non) aNil)))) (aCons (tupM (aCons (cst (.int 0)) (aCons (cst (.int 1)) (aCons (cst (.str "aa")) aNil)))) (aCons (tupM (aCons (cst (.int 0)) (aCons (cst (.int 1)) (aCons (cst (.str "ba")) aNil)))) (aCons (tupM (aCons (cst (.int 0)) (aCons (cst (.int 1)) (aCons (cst (.str "e")) aNil)))) (aCons (tupM (aCons (cst (.int 0)) (aCons (cst (.int 1)) (aCons (frz (lstM (aCons (cst (.str "a")) aNil))) aNil)))) (aCons (frzK newK) (aCons (cst (.int 7)) (aCons (tupM aNil) aNil)))))))))))))
 (retM (callM m__law_one (aCons (rd 0) (aCons (opM addM (rd 2) (frz (lstM (aCons (tupM (aCons (cst (.str "0")) (aCons (cst (.int 1)) (aCons (cst (.str "")) aNil)))) (aCons (tupM (aCons (cst (.int 0)) (aCons (cst (.str "1")) (aCons (cst (.str "")) aNil)))) (aCons (tupM (aCons (frz (lstM aNil)) (aCons (frzK newK) (aCons (cst (.str "")) aNil)))) (aCons (tupM (aCons (cst (.int 0)) (aCons (opM powM (cst (.int 10)) (cst (.int 30))) (aCons (cst (.str "")) aNil)))) aNil))))))) aNil))))))
 nxM)
 (retM (callM m__law_cut (aCons (rd 0) (aCons (opM subD (rd 1) (cst (.int 0))) (aCons (opM subD (rd 1) (cst (.int 1))) (aCons (callM m__law_one (aCons (rd 0) (aCons (frz (lstM (aCons (cst (.int 2)) (aCons (cst (.int 4)) (aCons (cst (.int 5)) aNil))))) aNil))) aNil)))))))
noncomputable def m__law_some : MF := runM 3 b__law_some
noncomputable def b__law_edit : MS :=
 (seqM (asgM (nameT 3) (callM m__law_one (aCons (rd 0) (aCons (frz (lstM (aCons (cst (.str "add")) (aCons (cst (.str "add")) (aCons (cst (.str "drop")) (aCons (cst (.str "drop")) (aCons (cst (.str "change")) (aCons (cst (.str "change")) (aCons (cst (.str "lift")) (aCons (cst (.str "allow")) (aCons (cst (.str "allow")) aNil))))))))))) aNil))))
 (seqM (ifS (tstM (opM eqM (rd 3) (cst (.str "add"))))
 (retM (tupM (aCons (rd 3) (aCons (callM m__law_some (aCons (rd 0) (aCons (rd 1) aNil))) aNil))))
 nxM)
 (seqM (asgM (nameT 4) (callM m__law_index (aCons (rd 0) (aCons (cbM lenA (aCons (rd 2) aNil)) aNil))))
 (seqM (ifS (tstM (opM eqM (rd 3) (cst (.str "allow"))))
 (retM (tupM (aCons (rd 3) (aCons (rd 4) (aCons (callM m__law_one (aCons (rd 0) (aCons (frz (lstM (aCons (cst (.int 0)) (aCons (cst (.int 1)) (aCons (cst (.int 2)) (aCons (cst (.int 3)) (aCons (cst (.int 4)) (aCons (cst (.int 5)) (aCons (cst (.int 5)) (aCons (cst (.int 4)) (aCons (cst (.int 3)) (aCons (unM (unI fun i => .int (-i)) (cst (.int 1))) (aCons (cst (.int 21)) (aCons (cst (.bl true)) (aCons (cst .non) (aCons (cst (.str "1")) (aCons (tupM aNil) (aCons (opM powM (cst (.int 10)) (cst (.int 30))) aNil)))))))))))))))))) aNil))) aNil)))))
 nxM)
 (retM (ifM (tstM (opM eqM (rd 3) (cst (.str "change")))) (tupM (aCons (rd 3) (aCons (rd 4) (aCons (callM m__law_some (aCons (rd 0) (aCons (rd 1) aNil))) aNil)))) (tupM (aCons (rd 3) (aCons (rd 4) aNil)))))))))
noncomputable def m__law_edit : MF := runM 5 b__law_edit
noncomputable def b__law_is_number : MS :=
 (retM (andV (isiM "int" (rd 0)) (andV (notV (isiM "bool" (rd 0))) (chM leM leM (rd 1) (rd 0) (rd 2)))))
noncomputable def m__law_is_number : MF := runM 3 b__law_is_number
noncomputable def b__law_backed : MS :=
 (seqM (asgM (tupT 2 (consT (nameT 3) (consT (nameT 4) nilT))) (ifM (tstM (opM eqM (rd 2) (cst (.int 0)))) (tupM (aCons (rd 0) (aCons (rd 1) aNil))) (tupM (aCons (rd 1) (aCons (rd 0) aNil)))))
 (seqM (ifS (tstM (opM ltA (cbM lenA (aCons (rd 3) aNil)) (opM subM (cst (.int 2)) (rd 2))))
 (retM (frz (lstM (aCons (ifM (tstM (opM eqM (rd 2) (cst (.int 0)))) (cst (.str "NothingToUndo")) (cst (.str "NothingToRedo"))) aNil))))
 nxM)
 (seqM (sappM (rd 4) (spopM (rd 3)))
 (retM (frz (lstM (aCons (cst (.str "ok")) (aCons (opM subM (cbM lenA (aCons (rd 0) aNil)) (cst (.int 1))) aNil))))))))
noncomputable def m__law_backed : MF := runM 5 b__law_backed
noncomputable def b_Bench_idle : MS :=
 (ifS (truM (fldM ["Bench"] "is_watched" (rd 0)))
 stkM
 nxM)
noncomputable def m_Bench_idle : MF := runM 1 b_Bench_idle
noncomputable def b_Bench_stand : MS :=
 (seqM (setM ["Bench"] "standing" (rd 0) (rd 1))
 (seqM (setM ["Bench"] "cuts" (rd 0) (ifM (tstM (opM neM (rd 1) (frz (lstM aNil)))) (opM subD (opM subD (rd 1) (unM (unI fun i => .int (-i)) (cst (.int 1)))) (cst (.int 1))) (fldM ["Bench"] "begun" (rd 0))))
 (retM (cbM lenA (aCons (rd 1) aNil)))))
noncomputable def m_Bench_stand : MF := runM 2 b_Bench_stand
noncomputable def b_Bench_undo : MSX :=
 (seqX (liX (dropM (methM "Bench" "idle" m_Bench_idle (rd 0) aNil)))
 (seqX (ifX (tstM (opM eqM (fldM ["Bench"] "standing" (rd 0)) (frz (lstM aNil))))
 (raiN "NothingToUndo")
 (liX nxM))
 (seqX (liX (setM ["Bench"] "undone" (rd 0) (opM addM (fldM ["Bench"] "undone" (rd 0)) (slM slAny (fldM ["Bench"] "standing" (rd 0)) (prt (unM (unI fun i => .int (-i)) (cst (.int 1)))) noP))))
 (liX (retM (methM "Bench" "stand" m_Bench_stand (rd 0) (aCons (slM slAny (fldM ["Bench"] "standing" (rd 0)) noP (prt (unM (unI fun i => .int (-i)) (cst (.int 1))))) aNil)))))))
noncomputable def m_Bench_undo : MFX := runX 1 b_Bench_undo
noncomputable def b_Bench_redo : MSX :=
 (seqX (liX (dropM (methM "Bench" "idle" m_Bench_idle (rd 0) aNil)))
 (seqX (ifX (tstM (opM eqM (fldM ["Bench"] "undone" (rd 0)) (frz (lstM aNil))))
 (raiN "NothingToRedo")
 (liX nxM))
 (seqX (liX (asgM (nameT 1) (opM subD (fldM ["Bench"] "undone" (rd 0)) (unM (unI fun i => .int (-i)) (cst (.int 1))))))
 (seqX (liX (setM ["Bench"] "undone" (rd 0) (slM slAny (fldM ["Bench"] "undone" (rd 0)) noP (prt (unM (unI fun i => .int (-i)) (cst (.int 1)))))))
 (liX (retM (methM "Bench" "stand" m_Bench_stand (rd 0) (aCons (opM addM (fldM ["Bench"] "standing" (rd 0)) (frz (lstM (aCons (rd 1) aNil)))) aNil))))))))
noncomputable def m_Bench_redo : MFX := runX 2 b_Bench_redo
noncomputable def b__law_back : MS :=
 (seqM (tryM (asgX (nameT 2) (lstX (consX (puX (cst (.str "ok"))) (consX (ifEX (tstM (opM eqM (rd 1) (cst (.str "undo")))) (metX "Bench" "undo" m_Bench_undo (rd 0) (puA aNil)) (metX "Bench" "redo" m_Bench_redo (rd 0) (puA aNil))) (puA aNil)))))
 [("NothingToUndo", (fun _ _ => (asgM (nameT 2) (frz (lstM (aCons (cst (.str "NothingToUndo")) aNil)))))), ("NothingToRedo", (fun _ _ => (asgM (nameT 2) (frz (lstM (aCons (cst (.str "NothingToRedo")) aNil))))))])
 (retM (rd 2)))
noncomputable def m__law_back : MF := runM 3 b__law_back
noncomputable def b_is_whole : MS :=
 (retM (andV (isiM "int" (rd 0)) (andV (notV (isiM "bool" (rd 0))) (chM leM leM (rd 1) (rd 0) (rd 2)))))
noncomputable def m_is_whole : MF := runM 3 b_is_whole
noncomputable def b_cut_at : MSX :=
 (seqX (ifX (notM (truM (callM m_is_whole (aCons (rd 1) (aCons (cst (.int 0)) (aCons (opM subM (cbM lenA (aCons (rd 0) aNil)) (cst (.int 1))) aNil))))))
 (raiX "NoCut" "index" (rd 1))
 (liX nxM))
 (liX (retM (opM subD (rd 0) (rd 1)))))
noncomputable def m_cut_at : MFX := runX 2 b_cut_at
noncomputable def b_Bench___getitem__ : MSX :=
 (retX (callX m_cut_at (puA (aCons (fldM ["Bench"] "cuts" (rd 0)) (aCons (rd 1) aNil)))))
noncomputable def m_Bench___getitem__ : MFX := runX 2 b_Bench___getitem__
noncomputable def b__law_got : MS :=
 (seqM (tryM (asgX (nameT 2) (lstX (consX (puX (cst (.str "ok"))) (consX (getOX "Bench" m_Bench___getitem__ (rd 0) (rd 1)) (puA aNil)))))
 [("NoCut", (asL "index" [some "NoCut", none] 2 3))])
 (retM (rd 2)))
noncomputable def m__law_got : MF := runM 4 b__law_got
noncomputable def b__law_is_cut : MS :=
 (seqM (ifS (orM (notM (truM (isiM "tuple" (rd 2)))) (orM (tstM (opM neM (cbM lenA (aCons (rd 2) aNil)) (cst (.int 3)))) (notM (truM (isiM "str" (opM subD (rd 2) (cst (.int 2))))))))
 (retM (cst (.bl false)))
 nxM)
 (seqM (ifS (orM (notM (truM (callM m__law_is_number (aCons (opM subD (rd 2) (cst (.int 0))) (aCons (cst (.int 0)) (aCons (opM subM (cbM lenA (aCons (rd 1) aNil)) (cst (.int 1))) aNil)))))) (notM (truM (callM m__law_is_number (aCons (opM subD (rd 2) (cst (.int 1))) (aCons (cst (.int 0)) (aCons (cst (.int 20)) aNil)))))))
 (retM (cst (.bl false)))
 nxM)
 (retM (opM eqM (opM subD (rd 2) (cst (.int 2))) (m1M joinM (cst (.str "")) (frz (compM (seqI (slM slAny (cst (.str "abcd")) noP (prt (rd 0)))) (nameT 3) (tstM (opM (cntD false) (rd 3) (opM subD (rd 2) (cst (.int 2))))) (rd 3) [3])))))))
noncomputable def m__law_is_cut : MF := runM 4 b__law_is_cut
noncomputable def b__law_cuts_error : MS :=
 (seqM (ifS (notM (truM (isiM "tuple" (rd 2))))
 (retM (tupM (aCons (cst .non) (aCons (cst (.str "cuts")) aNil))))
 nxM)
 (seqM (forM (r1M (aCons (cbM lenA (aCons (rd 2) aNil)) aNil)) (nameT 3)
 (ifS (notM (truM (callM m__law_is_cut (aCons (rd 0) (aCons (rd 1) (aCons (opM subD (rd 2) (rd 3)) aNil))))))
 (retM (tupM (aCons (rd 3) (aCons (cst (.str "cut")) aNil))))
 nxM))
 (retM (ifM (tstM (opM gtM (cbM lenA (aCons (rd 2) aNil)) (cst (.int 3)))) (tupM (aCons (cst .non) (aCons (cst (.str "many")) aNil))) (cst .non)))))
noncomputable def m__law_cuts_error : MF := runM 4 b__law_cuts_error
noncomputable def b__law_due : MS :=
 (seqM (asgM (tupT 2 (consT (nameT 3) (consT (nameT 4) nilT))) (slM slAny (rd 2) noP (prt (cst (.int 2)))))
 (seqM (asgM (nameT 5) (opM addM (rd 1) (slM slAny (rd 2) (prt (cst (.int 1))) noP)))
 (seqM (ifS (tstM (opM neM (rd 3) (cst (.str "add"))))
 (seqM (ifS (notM (truM (callM m__law_is_number (aCons (rd 4) (aCons (cst (.int 0)) (aCons (opM subM (cbM lenA (aCons (rd 1) aNil)) (cst (.int 1))) aNil))))))
 (retM (frz (lstM (aCons (cst (.str "NoCut")) (aCons (rd 4) aNil)))))
 nxM)
 (asgM (nameT 5) (opM addM (opM addM (slM slAny (rd 1) noP (prt (rd 4))) (slM slAny (rd 2) (prt (cst (.int 2))) noP)) (slM slAny (rd 1) (prt (opM addM (rd 4) (cst (.int 1)))) noP))))
 nxM)
 (seqM (ifS (tstM (opM eqM (rd 3) (cst (.str "lift"))))
 (seqM (asgM (nameT 5) (rd 1))
 (ifS (tstM (opM gtM (rd 4) (cst (.int 0))))
 (asgM (nameT 5) (opM addM (opM addM (slM slAny (rd 1) noP (prt (opM subM (rd 4) (cst (.int 1))))) (tupM (aCons (opM subD (rd 1) (rd 4)) (aCons (opM subD (rd 1) (opM subM (rd 4) (cst (.int 1)))) aNil)))) (slM slAny (rd 1) (prt (opM addM (rd 4) (cst (.int 1)))) noP)))
 nxM))
 nxM)
 (seqM (ifS (tstM (opM eqM (rd 3) (cst (.str "allow"))))
 (asgM (nameT 5) (opM addM (opM addM (slM slAny (rd 1) noP (prt (rd 4))) (tupM (aCons (tupM (aCons (opM subD (opM subD (rd 1) (rd 4)) (cst (.int 0))) (aCons (opM subD (rd 2) (cst (.int 2))) (aCons (opM subD (opM subD (rd 1) (rd 4)) (cst (.int 2))) aNil)))) aNil))) (slM slAny (rd 1) (prt (opM addM (rd 4) (cst (.int 1)))) noP)))
 nxM)
 (seqM (asgM (nameT 6) (callM m__law_cuts_error (aCons (opM subD (rd 0) (cst (.int 0))) (aCons (opM subD (rd 0) (cst (.int 1))) (aCons (rd 5) aNil)))))
 (retM (ifM (tstM (opM isM (rd 6) (cst .non))) (frz (lstM (aCons (cst (.str "ok")) (aCons (rd 5) aNil)))) (frz (lstM (aCons (cst (.str "BadCuts")) (aCons (rd 6) aNil))))))))))))
noncomputable def m__law_due : MF := runM 7 b__law_due
noncomputable def b_Bench_ready : MS :=
 (seqM (dropM (methM "Bench" "idle" m_Bench_idle (rd 0) aNil))
 (ifS (tstM (opM geM (cbM lenA (aCons (fldM ["Bench"] "standing" (rd 0)) aNil)) (cst (.int 60))))
 stkM
 nxM))
noncomputable def m_Bench_ready : MF := runM 1 b_Bench_ready
noncomputable def b_Bench_judge : MS :=
 (retM (cst .non))
noncomputable def m_Bench_judge : MF := runM 2 b_Bench_judge
noncomputable def b_Bench_settle : MS :=
 (seqM (dropM (methM "Bench" "judge" m_Bench_judge (rd 0) (aCons (rd 2) aNil)))
 (seqM (setM ["Bench"] "undone" (rd 0) (frz (lstM aNil)))
 (retM (methM "Bench" "stand" m_Bench_stand (rd 0) (aCons (opM addM (fldM ["Bench"] "standing" (rd 0)) (frz (lstM (aCons (tupM (aCons (rd 1) (aCons (rd 2) aNil))) aNil)))) aNil)))))
noncomputable def m_Bench_settle : MF := runM 3 b_Bench_settle
noncomputable def b_need_cuts : MSX :=
 (seqX (liX (asgM (nameT 3) (callM m_cuts_error (aCons (rd 0) (aCons (rd 1) (aCons (rd 2) aNil))))))
 (seqX (ifX (tstM (opM isNotM (rd 3) (cst .non)))
 (raiX "BadCuts" "error" (rd 3))
 (liX nxM))
 (liX (retM (rd 2)))))
noncomputable def m_need_cuts : MFX := runX 4 b_need_cuts
noncomputable def b_lifted : MS :=
 (seqM (ifS (tstM (opM eqM (rd 1) (cst (.int 0))))
 (retM (rd 0))
 nxM)
 (retM (opM addM (opM addM (slM slAny (rd 0) noP (prt (opM subM (rd 1) (cst (.int 1))))) (tupM (aCons (opM subD (rd 0) (rd 1)) (aCons (opM subD (rd 0) (opM subM (rd 1) (cst (.int 1)))) aNil)))) (slM slAny (rd 0) (prt (opM addM (rd 1) (cst (.int 1)))) noP))))
noncomputable def m_lifted : MF := runM 2 b_lifted
noncomputable def b_edited : MSX :=
 (seqX (liX (asgM (tupT 2 (consT (nameT 4) (consT (nameT 5) nilT))) (slM slAny (rd 3) noP (prt (cst (.int 2))))))
 (seqX (ifX (tstM (opM eqM (rd 4) (cst (.str "add"))))
 (retX (callX m_need_cuts (puA (aCons (rd 0) (aCons (rd 1) (aCons (opM addM (rd 2) (tupM (aCons (rd 5) aNil))) aNil))))))
 (liX nxM))
 (seqX (asgX (nameT 6) (callX m_cut_at (puA (aCons (rd 2) (aCons (rd 5) aNil)))))
 (seqX (ifX (tstM (opM eqM (rd 4) (cst (.str "drop"))))
 (liX (retM (opM addM (slM slAny (rd 2) noP (prt (rd 5))) (slM slAny (rd 2) (prt (opM addM (rd 5) (cst (.int 1)))) noP))))
 (liX nxM))
 (seqX (ifX (tstM (opM eqM (rd 4) (cst (.str "lift"))))
 (liX (retM (callM m_lifted (aCons (rd 2) (aCons (rd 5) aNil)))))
 (liX nxM))
 (seqX (liX (asgM (nameT 7) (ifM (tstM (opM eqM (rd 4) (cst (.str "change")))) (opM subD (rd 3) (cst (.int 2))) (tupM (aCons (opM subD (rd 6) (cst (.int 0))) (aCons (opM subD (rd 3) (cst (.int 2))) (aCons (opM subD (rd 6) (cst (.int 2))) aNil)))))))
 (retX (callX m_need_cuts (puA (aCons (rd 0) (aCons (rd 1) (aCons (opM addM (opM addM (slM slAny (rd 2) noP (prt (rd 5))) (tupM (aCons (rd 7) aNil))) (slM slAny (rd 2) (prt (opM addM (rd 5) (cst (.int 1)))) noP)) aNil))))))))))))
noncomputable def m_edited : MFX := runX 8 b_edited
noncomputable def b_Bench_do : MSX :=
 (seqX (liX (dropM (methM "Bench" "ready" m_Bench_ready (rd 0) aNil)))
 (retX (metDX "Bench" "settle" m_Bench_settle (rd 0) (consX (puX (rd 1)) (consX (callX m_edited (puA (aCons (opM subD (fldM ["Bench"] "kind" (rd 0)) (cst (.int 0))) (aCons (fldM ["Bench"] "units" (rd 0)) (aCons (fldM ["Bench"] "cuts" (rd 0)) (aCons (rd 1) aNil)))))) (puA aNil))))))
noncomputable def m_Bench_do : MFX := runX 2 b_Bench_do
noncomputable def b_Bench_add : MSX :=
 (retX (metX "Bench" "do" m_Bench_do (rd 0) (puA (aCons (tupM (aCons (cst (.str "add")) (aCons (rd 1) aNil))) aNil))))
noncomputable def m_Bench_add : MFX := runX 2 b_Bench_add
noncomputable def b_Bench___iadd__ : MSX :=
 (seqX (drpX (metX "Bench" "add" m_Bench_add (rd 0) (puA (aCons (rd 1) aNil))))
 (liX (retM (rd 0))))
noncomputable def m_Bench___iadd__ : MFX := runX 2 b_Bench___iadd__
noncomputable def b_Bench_drop : MSX :=
 (retX (metX "Bench" "do" m_Bench_do (rd 0) (puA (aCons (tupM (aCons (cst (.str "drop")) (aCons (rd 1) aNil))) aNil))))
noncomputable def m_Bench_drop : MFX := runX 2 b_Bench_drop
noncomputable def b_Bench___isub__ : MSX :=
 (seqX (drpX (metX "Bench" "drop" m_Bench_drop (rd 0) (puA (aCons (rd 1) aNil))))
 (liX (retM (rd 0))))
noncomputable def m_Bench___isub__ : MFX := runX 2 b_Bench___isub__
noncomputable def b_Bench___len__ : MS :=
 (retM (cbM lenA (aCons (fldM ["Bench"] "standing" (rd 0)) aNil)))
noncomputable def m_Bench___len__ : MF := runM 1 b_Bench___len__
noncomputable def b_Bench_change : MSX :=
 (retX (metX "Bench" "do" m_Bench_do (rd 0) (puA (aCons (tupM (aCons (cst (.str "change")) (aCons (rd 1) (aCons (rd 2) aNil)))) aNil))))
noncomputable def m_Bench_change : MFX := runX 3 b_Bench_change
noncomputable def b_Bench___setitem__ : MSX :=
 (drpX (metX "Bench" "change" m_Bench_change (rd 0) (puA (aCons (rd 1) (aCons (rd 2) aNil)))))
noncomputable def m_Bench___setitem__ : MFX := runX 3 b_Bench___setitem__
noncomputable def b__law_by_item : MS :=
 (seqM (asgM (nameT 2) (rd 0))
 (seqM (tryM (seqX (ifX (tstM (opM eqM (opM subD (rd 1) (cst (.int 0))) (cst (.str "add"))))
 (iopX 2 "Bench" m_Bench___iadd__ (opM subD (rd 1) (cst (.int 1))))
 (ifX (tstM (opM eqM (opM subD (rd 1) (cst (.int 0))) (cst (.str "drop"))))
 (iopX 2 "Bench" m_Bench___isub__ (opM subD (rd 1) (cst (.int 1))))
 (setOX "Bench" m_Bench___setitem__ (opM subD (rd 1) (cst (.int 2))) (rd 2) (opM subD (rd 1) (cst (.int 1))))))
 (liX (seqM (asgM (nameT 3) (frz (lstM (aCons (cst (.str "ok")) (aCons (lenOM "Bench" m_Bench___len__ (rd 2)) aNil)))))
 (ifS (orM (tstM (opM neM (noX (metX "Bench" "undo" m_Bench_undo (rd 2) (puA aNil))) (lenOM "Bench" m_Bench___len__ (rd 0)))) (tstM (opM neM (noX (metX "Bench" "redo" m_Bench_redo (rd 2) (puA aNil))) (lenOM "Bench" m_Bench___len__ (rd 0)))))
 (asgM (nameT 3) (frz (lstM (aCons (cst (.str "other")) aNil))))
 nxM))))
 [("NoCut", (asL "index" [some "NoCut", none] 3 4)), ("BadCuts", (asL "error" [some "BadCuts", none] 3 4))])
 (retM (rd 3))))
noncomputable def m__law_by_item : MF := runM 5 b__law_by_item
noncomputable def b_Bench_state : MS :=
 (seqM (ifS (tstM (opM isM (rd 1) (cst .non)))
 (retM (fldM ["Bench"] "cuts" (rd 0)))
 nxM)
 (seqM (ifS (notM (truM (callM m_is_whole (aCons (rd 1) (aCons (cst (.int 0)) (aCons (cbM lenA (aCons (fldM ["Bench"] "standing" (rd 0)) aNil)) aNil))))))
 stkM
 nxM)
 (retM (ifM (tstM (opM eqM (rd 1) (cst (.int 0)))) (fldM ["Bench"] "begun" (rd 0)) (opM subD (opM subD (fldM ["Bench"] "standing" (rd 0)) (opM subM (rd 1) (cst (.int 1)))) (cst (.int 1)))))))
noncomputable def m_Bench_state : MF := runM 2 b_Bench_state
noncomputable def b_Bench_edits : MS :=
 (retM (cbM tupleM (aCons (frz (compM (seqI (fldM ["Bench"] "standing" (rd 0))) (tupT 2 (consT (nameT 1) (consT (nameT 2) nilT))) yesM (rd 1) [1, 2])) aNil)))
noncomputable def m_Bench_edits : MF := runM 3 b_Bench_edits
noncomputable def b_law : MS :=
 (seqM (asgM (tupT 3 (consT (nameT 2) (consT (nameT 3) (consT (nameT 4) nilT)))) (callM m__law_scheme (aCons (rd 1) (aCons (cst (.int 3)) (aCons (cst (.int 20)) aNil)))))
 (seqM (asgM (tupT 4 (consT (nameT 5) (consT (nameT 6) (consT (nameT 7) (consT (nameT 8) nilT))))) (tupM (aCons (stoL (lstM (aCons (tupM (aCons (cst .non) (aCons (rd 4) aNil))) aNil))) (aCons (stoL (lstM aNil)) (aCons (makeM "Bench" m_Bench___init__ (aCons (rd 2) (aCons (rd 3) (aCons (rd 4) aNil)))) (aCons (tupM (aCons (opM subD (rd 2) (cst (.int 0))) (aCons (rd 3) aNil))) aNil))))))
 (seqM (forM (r1M (aCons (cst (.int 18)) aNil)) (nameT 9)
 (seqM (asgM (nameT 10) (opM subD (opM subD (rd 5) (unM (unI fun i => .int (-i)) (cst (.int 1)))) (cst (.int 1))))
 (seqM (asgM (nameT 11) (cbM lenA (aCons (rd 10) aNil)))
 (seqM (forM (seqI (frz (lstM (aCons (callM m__law_index (aCons (rd 1) (aCons (rd 11) aNil))) (aCons (opM subM (rd 11) (cst (.int 1))) (aCons (rd 11) aNil)))))) (nameT 12)
 (seqM (asgM (nameT 13) (ifM (truM (callM m__law_is_number (aCons (rd 12) (aCons (cst (.int 0)) (aCons (opM subM (rd 11) (cst (.int 1))) aNil))))) (frz (lstM (aCons (cst (.str "ok")) (aCons (opM subD (rd 10) (rd 12)) aNil)))) (frz (lstM (aCons (cst (.str "NoCut")) (aCons (rd 12) aNil))))))
 (ifS (tstM (opM neM (cbM reprQ (aCons (callM m__law_got (aCons (rd 7) (aCons (rd 12) aNil))) aNil)) (cbM reprQ (aCons (rd 13) aNil))))
 (retM (cst (.bl false)))
 nxM)))
 (seqM (parM 14 15 (aCons (callM m__law_edit (aCons (rd 1) (aCons (rd 8) (aCons (rd 10) aNil)))) (aCons (callM m__law_draw (aCons (rd 1) (aCons (cst (.int 6)) aNil))) aNil)))
 (seqM (ifS (tstM (opM ltA (rd 15) (cst (.int 2))))
 (parM 13 16 (aCons (callM m__law_backed (aCons (rd 5) (aCons (rd 6) (aCons (rd 15) aNil)))) (aCons (callM m__law_back (aCons (rd 7) (aCons (opM subD (frz (lstM (aCons (cst (.str "undo")) (aCons (cst (.str "redo")) aNil)))) (rd 15)) aNil))) aNil)))
 (ifS (tstM (opM (cntD false) (opM subD (rd 14) (cst (.int 0))) (frz (lstM (aCons (cst (.str "add")) (aCons (cst (.str "drop")) (aCons (cst (.str "change")) aNil)))))))
 (seqM (parM 13 16 (aCons (callM m__law_due (aCons (rd 8) (aCons (rd 10) (aCons (rd 14) aNil)))) (aCons (callM m__law_by_item (aCons (rd 7) (aCons (rd 14) aNil))) aNil)))
 (ifS (tstM (opM eqM (opM subD (rd 13) (cst (.int 0))) (cst (.str "ok"))))
 (seqM (sappM (rd 5) (tupM (aCons (rd 14) (aCons (opM subD (rd 13) (cst (.int 1))) aNil))))
 (par2 13 6 (xV (frz (lstM (aCons (cst (.str "ok")) (aCons (opM subM (cbM lenA (aCons (rd 5) aNil)) (cst (.int 1))) aNil))))) (xV (stoL (lstM aNil)))))
 nxM))
 (parM 13 16 (aCons (frz (lstM aNil)) (aCons (frz (lstM aNil)) aNil)))))
 (seqM (asgM (nameT 17) (cbM tupleM (aCons (frz (compM (seqI (slM slAny (rd 5) (prt (cst (.int 1))) noP)) (nameT 18) yesM (opM subD (rd 18) (cst (.int 0))) [18])) aNil)))
 (ifS (tstM (opM neM (cbM reprQ (aCons (frz (lstM (aCons (rd 16) (aCons (methN0 "Bench" "state" 1 m_Bench_state (rd 7)) (aCons (methM "Bench" "edits" m_Bench_edits (rd 7) aNil) aNil))))) aNil)) (cbM reprQ (aCons (frz (lstM (aCons (rd 13) (aCons (opM subD (opM subD (rd 5) (unM (unI fun i => .int (-i)) (cst (.int 1)))) (cst (.int 1))) (aCons (rd 17) aNil))))) aNil))))
 (retM (cst (.bl false)))
 nxM))))))))
 (retM (cst (.bl true))))))
section
variable {P : Program} {ww : WW} {K : Fg} {mg : Str → Option Value} {base : Heap}
theorem ok_NoCut___init__ {C : Addr} (hm : mg "LookupError" = none) (vV : PySem.W.findCls K (.type "LookupError") (.type "type") "__init__" = some (.val (.builtin "LookupError.__init__"))) (T : OlxC K C) (hno : PySem.W.findIn K (.ref C) "index" = some none) {f : Addr} {fd : FuncData} (Fn : Fun K "__init__" "NoCut.__init__" s_NoCut___init__ f fd) : FnOk P WW.w K mg base CX0 1 f fd ["self", "index"] (spEI C "index") :=
  Fn.ok sc_NoCut___init__ fnE_len fun cdv A outer s H vs Q E hr h => ⟨_, pss_cons (ps_expr (pe_leinit (by rfl) hm vV (pa_cons (pv 0) (pa_cons pe_str pa_nil)))) (pss_one (ps_ole (pv 0) (pv 1))), exc_initL T hno vs H Q E h ["self", "index"] rfl⟩
theorem ok_BadCuts___init__ {C U : Addr} (hm : mg "UnitError" = some (.ref U)) (M : UInit K U) (T : OexC K C) (hno : PySem.W.findIn K (.ref C) "error" = some none) {f : Addr} {fd : FuncData} (Fn : Fun K "__init__" "BadCuts.__init__" s_BadCuts___init__ f fd) : FnOk P WW.w K mg base CX0 1 f fd ["self", "error"] (spEI C "error") :=
  Fn.ok sc_BadCuts___init__ fnE_len fun cdv A outer s H vs Q E hr h => ⟨_, pss_cons (ps_expr (pe_uinit (by rfl) hm M (pa_cons (pv 0) (pa_cons pe_str pa_nil)))) (pss_one (ps_ost (pv 0) (pv 1))), exc_init T hno vs H Q E h ["self", "error"] rfl⟩
theorem ok__law_deck (T : Txt K mg) {f : Addr} {fd : FuncData} (Fn : Fun K "_law_deck" "_law_deck" s__law_deck f fd)  : FnG P WW.w K mg base 1 f fd ["_law_script"] (spDeck K) :=
  fn_deck Fn sc__law_deck rfl rfl fun cdv A outer s H E => by
  refine (pss_one (ps_ret (pe_lst (pa_cons (pe_lc (own := [("_law_cell", 1)]) (g := gName 1) rfl sc__law_deck.nd (pi_list (pe_slice sl_list (pv 0) po_none (po_some pe_int))) (blkOk_by (own := [("_law_cell", 1)]) (N := ["_law_script", "_law_cell"]) (sc := defScope s__law_deck) (by decide +kernel)) (fun _ _ _ _ _ => pg_name (i := 1) sc__law_deck.nd rfl (Or.inl rfl)) (fun _ _ _ _ _ => pts_nil) (fun _ _ _ _ _ => pe_callB call_abs (by rfl) T.n_abs (by decide +kernel) (pa_cons (pv 1) pa_nil))) (pa_cons pe_int pa_nil)))))
theorem ok__law_draw (T : Txt K mg) {f : Addr} {fd : FuncData} (Fn : Fun K "_law_draw" "_law_draw" s__law_draw f fd)  : FnG P WW.w K mg base 1 f fd ["_law_deck_here", "_law_many"] (spD K 2 m__law_draw) :=
  fn_draw (c := dc) (by unfold DC.ok dc; decide) Fn sc__law_draw rfl rfl fun cdv A outer s H E => by
  refine (pss_cons (ps_asg (pe_op op_add (pe_ix ix_seq (pv 0) pe_int (fun _ _ => rfl)) pe_int) (pg_sub (pv 0) pe_int set_list))
 (pss_cons (ps_asg (pe_tup (pa_cons pe_int (pa_cons (pe_un un_neg pe_int) pa_nil))) (pg_tup rfl (pgs_cons (pg_name (i := 2) sc__law_draw.nd rfl (Or.inl rfl)) (pgs_cons (pg_name (i := 3) sc__law_draw.nd rfl (Or.inl rfl)) pgs_nil))))
 (pss_cons (ps_if (pt_cmpR op_gt (pe_callB call_len (by rfl) T.n_len (by decide +kernel) (pa_cons (pe_ix ix_seq (pv 0) pe_int (fun _ _ => rfl)) pa_nil)) pe_int (nomark _))
   (pss_cons (ps_set (i := 3) sc__law_draw.nd rfl (Or.inl rfl) (pe_op op_mod (pe_callTy call_int1 (by rfl) T.n_int (by decide +kernel) (pa_cons (pe_ix ix_seq (pv 0) pe_int (fun _ _ => rfl)) pa_nil)) (pe_callB call_len (by rfl) T.n_len (by decide +kernel) (pa_cons (pe_ix ix_seq (pv 0) pe_int (fun _ _ => rfl)) pa_nil)))) (pss_one (ps_set (i := 2) sc__law_draw.nd rfl (Or.inl rfl) (pe_ix ix_seq (pe_ix ix_seq (pv 0) pe_int (fun _ _ => rfl)) (pv 3) (fun _ _ => rfl))))) pss_nil)
 (pss_cons (ps_if (pt_cmpR op_ge (pv 2) (pe_op op_pow pe_int pe_int) (nomark _))
   (pss_cons (ps_asg (pe_op op_fdiv (pe_callTy call_int1 (by rfl) T.n_int (by decide +kernel) (pa_cons (pv 2) pa_nil)) (pv 1)) (pg_sub (pe_ix ix_seq (pv 0) pe_int (fun _ _ => rfl)) (pv 3) set_list)) (pss_one (ps_ret (pe_op op_mod (pe_callTy call_int1 (by rfl) T.n_int (by decide +kernel) (pa_cons (pv 2) pa_nil)) (pv 1))))) pss_nil)
 (pss_cons (ps_set (i := 4) sc__law_draw.nd rfl (Or.inl rfl) (pe_op op_add (pe_op op_add (pe_op op_mod (pe_callTy call_int1 (by rfl) T.n_int (by decide +kernel) (pa_cons (pv 2) pa_nil)) pe_int) (pe_op op_mul pe_int (pe_ix ix_seq (pv 0) pe_int (fun _ _ => rfl)))) pe_int))
 (pss_one (ps_ret (pe_op op_mod (pe_callTy call_int1 (by rfl) T.n_int (by decide +kernel) (pa_cons (pe_op op_mod (pe_callTy call_int1 (by rfl) T.n_int (by decide +kernel) (pa_cons (pe_op op_pow (pv 4) pe_int) pa_nil)) pe_int) pa_nil)) (pv 1)))))))))
theorem ok__law_kind (T : Txt K mg) {f : Addr} {fd : FuncData} (Fn : Fun K "_law_kind" "_law_kind" s__law_kind f fd) (c__law_draw : Cal P WW.w K mg base 1 "_law_draw" ["_law_deck_here", "_law_many"] (spD K 2 m__law_draw)) : FnG P WW.w K mg base 2 f fd ["_law_deck_here", "_law_letters", "_law_most"] (spD K 3 m__law_kind) :=
  fnD Fn sc__law_kind (by decide) fun cdv A outer s H E hr gd => ⟨_, (pss_cons (ps_asg (pe_tup (pa_cons (pe_op op_addA pe_int (pe_callC c__law_draw hr gd (by rfl) (pa_cons (pv 0) (pa_cons (pv 2) pa_nil)))) (pa_cons (pe_lst pa_nil) (pa_cons (pe_lst pa_nil) pa_nil)))) (pg_tup rfl (pgs_cons (pg_name (i := 3) sc__law_kind.nd rfl (Or.inr rfl)) (pgs_cons (pg_name (i := 4) sc__law_kind.nd rfl (Or.inl rfl)) (pgs_cons (pg_name (i := 5) sc__law_kind.nd rfl (Or.inl rfl)) pgs_nil)))))
 (pss_cons (ps_for PassesOwn.never rfl (pi_range1 (by rfl) T.n_range (pa_cons (pv 3) pa_nil)) (pg_name (i := 6) sc__law_kind.nd rfl (Or.inl rfl))
 (pss_cons (ps_setLc (i := 7) (own := [("_law_j", 8)]) (g := (gName 8)) rfl sc__law_kind.nd rfl rfl (sw_true rfl rfl rfl (by decide +kernel)) (pi_range1 (by rfl) T.n_range (pa_cons (pv 1) pa_nil)) (blkOk_by (own := [("_law_j", 8)]) (N := ["_law_deck_here", "_law_letters", "_law_most", "_law_many", "_law_rows", "_law_ends", "_law_k", "_law_row", "_law_j"]) (sc := defScope s__law_kind) (by decide +kernel)) (fun _ _ _ _ _ => (pg_name (i := 8) sc__law_kind.nd rfl (Or.inl rfl))) (fun _ _ _ _ _ => pts_nil) (fun _ _ _ _ _ => (pe_ifExp (pt_cmpR (op_eqA hr.units) (pe_callC c__law_draw hr gd (by rfl) (pa_cons (pv 0) (pa_cons pe_int pa_nil))) pe_int (nomark _)) pe_non (pe_callC c__law_draw hr gd (by rfl) (pa_cons (pv 0) (pa_cons (pv 3) pa_nil))))))
 (pss_cons (ps_expr (pe_bm PySem.F.plainAttrs_list PySem.F.slot_list_append PySem.F.type_list_append mt_append (pv 4) (pa_cons (pe_callTy (call_tupA rfl) (by rfl) T.n_tuple (by decide +kernel) (pa_cons (pv 7) pa_nil)) pa_nil)))
 (pss_one (ps_expr (pe_bm PySem.F.plainAttrs_list PySem.F.slot_list_append PySem.F.type_list_append mt_append (pv 5) (pa_cons (pe_cmpR op_gt (pe_callC c__law_draw hr gd (by rfl) (pa_cons (pv 0) (pa_cons pe_int pa_nil))) pe_int (nomark _)) pa_nil)))))))
 (pss_one (ps_ret (pe_tup (pa_cons (pv 1) (pa_cons (pe_callTy (call_tupA rfl) (by rfl) T.n_tuple (by decide +kernel) (pa_cons (pv 4) pa_nil)) (pa_cons (pe_callTy (call_tupA rfl) (by rfl) T.n_tuple (by decide +kernel) (pa_cons (pv 5) pa_nil)) pa_nil)))))))),
 (is_seq (is_asg (im_tup (ia_cons (im_op ro_addA (im_int).w ((im_call (ia_cons (im_var 0) (ia_cons (im_var 2) ia_nil)) (an_cons (an_cons an_nil)))).w) (ia_cons ((if_lst ia_nil)).sto (ia_cons ((if_lst ia_nil)).sto ia_nil)))) (ig_tup (igs_cons (ig_name 3) (igs_cons (ig_name 4) (igs_cons (ig_name 5) igs_nil)))))
 (is_seq (is_for (ii_range1 (iaw_cons ((im_var 3)).w iaw_nil)) (ig_name 6)
 (is_seq (is_asg ((if_comp (vs := [8]) (ii_range1 (iaw_cons ((im_var 1)).w iaw_nil)) (ig_name 8) it_yes (im_if (it_test (im_op ro_eq ((im_call (ia_cons (im_var 0) (ia_cons im_int ia_nil)) (an_cons (an_cons an_nil)))).w (im_int).w)) im_non (im_call (ia_cons (im_var 0) (ia_cons (im_var 3) ia_nil)) (an_cons (an_cons an_nil)))) (by decide))).im (ig_name 7))
 (is_seq (is_sapp (im_var 4) (im_cb rc_tupA (iaw_cons ((im_var 7)).w iaw_nil)))
 (is_sapp (im_var 5) (im_op ro_gt ((im_call (ia_cons (im_var 0) (ia_cons im_int ia_nil)) (an_cons (an_cons an_nil)))).w (im_int).w)))))
 (is_ret (im_tup (ia_cons (im_var 1) (ia_cons (im_cb rc_tupA (iaw_cons ((im_var 4)).w iaw_nil)) (ia_cons (im_cb rc_tupA (iaw_cons ((im_var 5)).w iaw_nil)) ia_nil)))))))⟩
theorem ok__law_one (T : Txt K mg) {f : Addr} {fd : FuncData} (Fn : Fun K "_law_one" "_law_one" s__law_one f fd) (c__law_draw : Cal P WW.w K mg base 1 "_law_draw" ["_law_deck_here", "_law_many"] (spD K 2 m__law_draw)) : FnG P WW.w K mg base 2 f fd ["_law_deck_here", "_law_items"] (spD K 2 m__law_one) :=
  fnD Fn sc__law_one (by decide) fun cdv A outer s H E hr gd => ⟨_, (pss_one (ps_ret (pe_sub (units1 hr.units) (pv 1) (pe_callC c__law_draw hr gd (by rfl) (pa_cons (pv 0) (pa_cons (pe_callB call_lenA (by rfl) T.n_len (by decide +kernel) (pa_cons (pv 1) pa_nil)) pa_nil)))))),
 (is_ret (im_sub ((im_var 1)).w ((im_call (ia_cons (im_var 0) (ia_cons (im_cb rc_lenA (iaw_cons ((im_var 1)).w iaw_nil)) ia_nil)) (an_cons (an_cons an_nil)))).w))⟩
theorem ok__law_units (T : Txt K mg) {f : Addr} {fd : FuncData} (Fn : Fun K "_law_units" "_law_units" s__law_units f fd) (c__law_draw : Cal P WW.w K mg base 1 "_law_draw" ["_law_deck_here", "_law_many"] (spD K 2 m__law_draw)) (c__law_one : Cal P WW.w K mg base 2 "_law_one" ["_law_deck_here", "_law_items"] (spD K 2 m__law_one)) : FnG P WW.w K mg base 3 f fd ["_law_deck_here", "_law_letters"] (spD K 2 m__law_units) :=
  fnD Fn sc__law_units (by decide) fun cdv A outer s H E hr gd => ⟨_, (pss_cons (ps_set (i := 2) sc__law_units.nd rfl (Or.inl rfl) (pe_lst pa_nil))
 (pss_cons (ps_for PassesOwn.never rfl (pi_range1 (by rfl) T.n_range (pa_cons (pe_op op_addA pe_int (pe_callC c__law_draw hr gd (by rfl) (pa_cons (pv 0) (pa_cons pe_int pa_nil)))) pa_nil)) (pg_name (i := 3) sc__law_units.nd rfl (Or.inl rfl))
 (pss_one (ps_expr (pe_bm PySem.F.plainAttrs_list PySem.F.slot_list_append PySem.F.type_list_append mt_append (pv 2) (pa_cons (pe_callTy (call_tupA rfl) (by rfl) T.n_tuple (by decide +kernel) (pa_cons (pe_lc (own := [("_law_j", 4)]) (g := (gName 4)) rfl sc__law_units.nd (pi_range1 (by rfl) T.n_range (pa_cons (pv 1) pa_nil)) (blkOk_by (own := [("_law_j", 4)]) (N := ["_law_deck_here", "_law_letters", "_law_found", "_law_k", "_law_j"]) (sc := defScope s__law_units) (by decide +kernel)) (fun _ _ _ _ _ => (pg_name (i := 4) sc__law_units.nd rfl (Or.inl rfl))) (fun _ _ _ _ _ => pts_nil) (fun _ _ _ _ _ => (pe_callC c__law_one hr gd (by rfl) (pa_cons (pv 0) (pa_cons (pe_lst (pa_cons pe_int (pa_cons pe_int (pa_cons pe_int (pa_cons pe_int (pa_cons pe_int (pa_cons pe_int (pa_cons pe_int (pa_cons pe_int pa_nil))))))))) pa_nil))))) pa_nil)) pa_nil)))))
 (pss_one (ps_ret (pe_callTy (call_tupA rfl) (by rfl) T.n_tuple (by decide +kernel) (pa_cons (pv 2) pa_nil)))))),
 (is_seq (is_own 2 (if_lst ia_nil))
 (is_seq (is_for (ii_range1 (iaw_cons ((im_op ro_addA (im_int).w ((im_call (ia_cons (im_var 0) (ia_cons im_int ia_nil)) (an_cons (an_cons an_nil)))).w)).w iaw_nil)) (ig_name 3)
 (is_app 2 (im_cb rc_tupA (iaw_cons ((if_comp (vs := [4]) (ii_range1 (iaw_cons ((im_var 1)).w iaw_nil)) (ig_name 4) it_yes (im_call (ia_cons (im_var 0) (ia_cons ((if_lst (ia_cons im_int (ia_cons im_int (ia_cons im_int (ia_cons im_int (ia_cons im_int (ia_cons im_int (ia_cons im_int (ia_cons im_int ia_nil)))))))))).im ia_nil)) (an_cons (an_cons an_nil))) (by decide))).w iaw_nil))))
 (is_ret (im_cb rc_tupA (iaw_cons (im_own 2) iaw_nil)))))⟩
theorem ok__law_cut (T : Txt K mg) {f : Addr} {fd : FuncData} (Fn : Fun K "_law_cut" "_law_cut" s__law_cut f fd) (c__law_draw : Cal P WW.w K mg base 1 "_law_draw" ["_law_deck_here", "_law_many"] (spD K 2 m__law_draw)) : FnG P WW.w K mg base 2 f fd ["_law_deck_here", "_law_letters", "_law_units_here", "_law_most"] (spD K 4 m__law_cut) :=
  fnD Fn sc__law_cut (by decide) fun cdv A outer s H E hr gd => ⟨_, (pss_cons (ps_set (i := 4) sc__law_cut.nd rfl (Or.inl rfl) (pe_join pe_str (pe_lc (own := [("_law_letter", 5)]) (g := (gName 5)) rfl sc__law_cut.nd (pi_seq (pe_slice sl_any pe_str po_none (po_some (pv 1)))) (blkOk_by (own := [("_law_letter", 5)]) (N := ["_law_deck_here", "_law_letters", "_law_units_here", "_law_most", "_law_clings", "_law_letter"]) (sc := defScope s__law_cut) (by decide +kernel)) (fun _ _ _ _ _ => (pg_name (i := 5) sc__law_cut.nd rfl (Or.inl rfl))) (fun _ _ _ _ _ => (pts_one (pt_cmpR (op_eqA hr.units) (pe_callC c__law_draw hr gd (by rfl) (pa_cons (pv 0) (pa_cons pe_int pa_nil))) pe_int (nomark _)))) (fun _ _ _ _ _ => (pv 5)))))
 (pss_one (ps_ret (pe_tup (pa_cons (pe_callC c__law_draw hr gd (by rfl) (pa_cons (pv 0) (pa_cons (pe_callB call_lenA (by rfl) T.n_len (by decide +kernel) (pa_cons (pv 2) pa_nil)) pa_nil))) (pa_cons (pe_callC c__law_draw hr gd (by rfl) (pa_cons (pv 0) (pa_cons (pe_op op_addA (pv 3) pe_int) pa_nil))) (pa_cons (pv 4) pa_nil))))))),
 (is_seq (is_asg (im_m1 rm_join (im_str).w ((if_comp (vs := [5]) (ii_seq (im_sl rs_any (im_str).w io_none (io_some ((im_var 1)).w))) (ig_name 5) (it_test (im_op ro_eq ((im_call (ia_cons (im_var 0) (ia_cons im_int ia_nil)) (an_cons (an_cons an_nil)))).w (im_int).w)) (im_var 5) (by decide))).w) (ig_name 4))
 (is_ret (im_tup (ia_cons (im_call (ia_cons (im_var 0) (ia_cons (im_cb rc_lenA (iaw_cons ((im_var 2)).w iaw_nil)) ia_nil)) (an_cons (an_cons an_nil))) (ia_cons (im_call (ia_cons (im_var 0) (ia_cons (im_op ro_addA ((im_var 3)).w (im_int).w) ia_nil)) (an_cons (an_cons an_nil))) (ia_cons (im_var 4) ia_nil))))))⟩
theorem ok__law_scheme (T : Txt K mg) {f : Addr} {fd : FuncData} (Fn : Fun K "_law_scheme" "_law_scheme" s__law_scheme f fd) (c__law_draw : Cal P WW.w K mg base 1 "_law_draw" ["_law_deck_here", "_law_many"] (spD K 2 m__law_draw)) (c__law_kind : Cal P WW.w K mg base 2 "_law_kind" ["_law_deck_here", "_law_letters", "_law_most"] (spD K 3 m__law_kind)) (c__law_units : Cal P WW.w K mg base 3 "_law_units" ["_law_deck_here", "_law_letters"] (spD K 2 m__law_units)) (c__law_cut : Cal P WW.w K mg base 2 "_law_cut" ["_law_deck_here", "_law_letters", "_law_units_here", "_law_most"] (spD K 4 m__law_cut)) : FnG P WW.w K mg base 4 f fd ["_law_deck_here", "_law_states", "_law_most"] (spD K 3 m__law_scheme) :=
  fnD Fn sc__law_scheme (by decide) fun cdv A outer s H E hr gd => ⟨_, (pss_cons (ps_set (i := 3) sc__law_scheme.nd rfl (Or.inr rfl) (pe_op op_addA pe_int (pe_callC c__law_draw hr gd (by rfl) (pa_cons (pv 0) (pa_cons pe_int pa_nil)))))
 (pss_cons (ps_asg (pe_tup (pa_cons (pe_callC c__law_kind hr gd (by rfl) (pa_cons (pv 0) (pa_cons (pv 3) (pa_cons (pv 1) pa_nil)))) (pa_cons (pe_callC c__law_units hr gd (by rfl) (pa_cons (pv 0) (pa_cons (pv 3) pa_nil))) pa_nil))) (pg_tup rfl (pgs_cons (pg_name (i := 4) sc__law_scheme.nd rfl (Or.inl rfl)) (pgs_cons (pg_name (i := 5) sc__law_scheme.nd rfl (Or.inr rfl)) pgs_nil))))
 (pss_one (ps_ret (pe_tup (pa_cons (pv 4) (pa_cons (pv 5) (pa_cons (pe_callTy (call_tupA rfl) (by rfl) T.n_tuple (by decide +kernel) (pa_cons (pe_lc (own := [("_law_k", 6)]) (g := (gName 6)) rfl sc__law_scheme.nd (pi_range1 (by rfl) T.n_range (pa_cons (pe_callC c__law_draw hr gd (by rfl) (pa_cons (pv 0) (pa_cons pe_int pa_nil))) pa_nil)) (blkOk_by (own := [("_law_k", 6)]) (N := ["_law_deck_here", "_law_states", "_law_most", "_law_letters", "_law_kind_here", "_law_units_here", "_law_k"]) (sc := defScope s__law_scheme) (by decide +kernel)) (fun _ _ _ _ _ => (pg_name (i := 6) sc__law_scheme.nd rfl (Or.inl rfl))) (fun _ _ _ _ _ => pts_nil) (fun _ _ _ _ _ => (pe_callC c__law_cut hr gd (by rfl) (pa_cons (pv 0) (pa_cons (pv 3) (pa_cons (pv 5) (pa_cons (pv 2) pa_nil))))))) pa_nil)) pa_nil)))))))),
 (is_seq (is_asg (im_op ro_addA (im_int).w ((im_call (ia_cons (im_var 0) (ia_cons im_int ia_nil)) (an_cons (an_cons an_nil)))).w) (ig_name 3))
 (is_seq (is_asg (im_tup (ia_cons (im_call (ia_cons (im_var 0) (ia_cons (im_var 3) (ia_cons (im_var 1) ia_nil))) (an_cons (an_cons (an_cons an_nil)))) (ia_cons (im_call (ia_cons (im_var 0) (ia_cons (im_var 3) ia_nil)) (an_cons (an_cons an_nil))) ia_nil))) (ig_tup (igs_cons (ig_name 4) (igs_cons (ig_name 5) igs_nil))))
 (is_ret (im_tup (ia_cons (im_var 4) (ia_cons (im_var 5) (ia_cons (im_cb rc_tupA (iaw_cons ((if_comp (vs := [6]) (ii_range1 (iaw_cons ((im_call (ia_cons (im_var 0) (ia_cons im_int ia_nil)) (an_cons (an_cons an_nil)))).w iaw_nil)) (ig_name 6) it_yes (im_call (ia_cons (im_var 0) (ia_cons (im_var 3) (ia_cons (im_var 5) (ia_cons (im_var 2) ia_nil)))) (an_cons (an_cons (an_cons (an_cons an_nil))))) (by decide))).w iaw_nil)) ia_nil)))))))⟩
theorem ok_is_integer_words (T : Txt K mg) {f : Addr} {fd : FuncData} (Fn : Fun K "is_integer" "is_integer" s_is_integer_words f fd)  : FnG P WW.w K mg base 1 f fd ["value", "least", "most"] (spD K 3 m_is_integer_words) :=
  fnD Fn sc_is_integer_words (by decide) fun cdv A outer s H E hr gd => ⟨_, (pss_one (ps_ret (L2.pe_and (pe_callB call_isi (by rfl) T.n_isinstance (by decide +kernel) (pa_cons (pv 0) (pa_cons (pe_tyName (by rfl) T.n_int (by decide +kernel)) pa_nil))) (L2.pe_and (pe_not (pe_callB call_isi (by rfl) T.n_isinstance (by decide +kernel) (pa_cons (pv 0) (pa_cons (pe_tyName (by rfl) T.n_bool (by decide +kernel)) pa_nil)))) (pe_one (pe_chain op_le op_le (pv 1) (pv 0) (pv 2))))))),
 (is_ret (im_andV (im_isi "int" ((im_var 0)).w) (im_andV (im_notV (im_isi "bool" ((im_var 0)).w)) (im_chain ro_le ro_le ((im_var 1)).w ((im_var 0)).w ((im_var 2)).w))))⟩
theorem ok_is_row (T : Txt K mg) {f : Addr} {fd : FuncData} (Fn : Fun K "is_row" "is_row" s_is_row f fd) (c_is_integer_words : Cal P WW.w K mg base 1 "is_integer_words" ["value", "least", "most"] (spD K 3 m_is_integer_words)) : FnG P WW.w K mg base 2 f fd ["value", "letters", "many"] (spD K 3 m_is_row) :=
  fnD Fn sc_is_row (by decide) fun cdv A outer s H E hr gd => ⟨_, (pss_cons (ps_if (PW.pt (pw_or (pt_not (pt_truth (pe_callB call_isi (by rfl) T.n_isinstance (by decide +kernel) (pa_cons (pv 0) (pa_cons (pe_tyName (by rfl) T.n_tuple (by decide +kernel)) pa_nil))) (by intro _; rfl))) (pw_or1 (pt_cmpR (op_neA hr.units) (pe_callB call_lenA (by rfl) T.n_len (by decide +kernel) (pa_cons (pv 0) pa_nil)) (pv 1) (nomark _)))))
 (pss_one (ps_ret pe_bl))
 pss_nil)
 (pss_one (ps_ret (pe_cmpR (op_eqA hr.units) (pe_lc (own := [("item", 3)]) (g := (gName 3)) rfl sc_is_row.nd (pi_seq (pv 0)) (blkOk_by (own := [("item", 3)]) (N := ["value", "letters", "many", "item"]) (sc := defScope s_is_row) (by decide +kernel)) (fun _ _ _ _ _ => (pg_name (i := 3) sc_is_row.nd rfl (Or.inl rfl))) (fun _ _ _ _ _ => (pts_one (PW.pt (pw_and (pt_cmpR op_notN (pv 3) pe_non (nomark _)) (pw_and1 (pt_not (pt_truth (pe_callC c_is_integer_words hr gd (by rfl) (pa_cons (pv 3) (pa_cons pe_int (pa_cons (pe_op op_sub (pv 2) pe_int) pa_nil)))) (by intro _; rfl)))))))) (fun _ _ _ _ _ => (pv 3))) (pe_lst pa_nil) (nomark _))))),
 (is_seq (is_if (it_or (it_not (it_truth ((im_isi "tuple" ((im_var 0)).w)).w)) (it_test (im_op ro_ne ((im_cb rc_lenA (iaw_cons ((im_var 0)).w iaw_nil))).w ((im_var 1)).w)))
 (is_ret im_bl)
 is_next)
 (is_ret (im_op ro_eq ((if_comp (vs := [3]) (ii_seq (im_var 0)) (ig_name 3) (it_and (it_test (im_op ro_isNot ((im_var 3)).w (im_non).w)) (it_not (it_truth ((im_call (ia_cons (im_var 3) (ia_cons im_int (ia_cons (im_op ro_sub ((im_var 2)).w (im_int).w) ia_nil))) (an_cons (an_cons (an_cons an_nil))))).w))) (im_var 3) (by decide))).w ((if_lst ia_nil)).w)))⟩
theorem ok_are_rows (T : Txt K mg) {f : Addr} {fd : FuncData} (Fn : Fun K "are_rows" "are_rows" s_are_rows f fd) (c_is_row : Cal P WW.w K mg base 2 "is_row" ["value", "letters", "many"] (spD K 3 m_is_row)) : FnG P WW.w K mg base 3 f fd ["value", "letters"] (spD K 2 m_are_rows) :=
  fnD Fn sc_are_rows (by decide) fun cdv A outer s H E hr gd => ⟨_, (pss_cons (ps_if (PW.pt (pw_or (pt_not (pt_truth (pe_callB call_isi (by rfl) T.n_isinstance (by decide +kernel) (pa_cons (pv 0) (pa_cons (pe_tyName (by rfl) T.n_tuple (by decide +kernel)) pa_nil))) (by intro _; rfl))) (pw_or1 (pt_not (pt_chain op_le op_le pe_int (pe_callB call_lenA (by rfl) T.n_len (by decide +kernel) (pa_cons (pv 0) pa_nil)) (pe_gint (by rfl) T.c_MAX_STATES))))))
 (pss_one (ps_ret pe_bl))
 pss_nil)
 (pss_one (ps_ret (pe_cmpR (op_eqA hr.units) (pe_lc (own := [("row", 2)]) (g := (gName 2)) rfl sc_are_rows.nd (pi_seq (pv 0)) (blkOk_by (own := [("row", 2)]) (N := ["value", "letters", "row"]) (sc := defScope s_are_rows) (by decide +kernel)) (fun _ _ _ _ _ => (pg_name (i := 2) sc_are_rows.nd rfl (Or.inl rfl))) (fun _ _ _ _ _ => (pts_one (pt_not (pt_truth (pe_callC c_is_row hr gd (by rfl) (pa_cons (pv 2) (pa_cons (pv 1) (pa_cons (pe_callB call_lenA (by rfl) T.n_len (by decide +kernel) (pa_cons (pv 0) pa_nil)) pa_nil)))) (by intro _; rfl))))) (fun _ _ _ _ _ => (pv 2))) (pe_lst pa_nil) (nomark _))))),
 (is_seq (is_if (it_or (it_not (it_truth ((im_isi "tuple" ((im_var 0)).w)).w)) (it_not (it_test (im_chain ro_le ro_le (im_int).w ((im_cb rc_lenA (iaw_cons ((im_var 0)).w iaw_nil))).w (im_int).w))))
 (is_ret im_bl)
 is_next)
 (is_ret (im_op ro_eq ((if_comp (vs := [2]) (ii_seq (im_var 0)) (ig_name 2) (it_not (it_truth ((im_call (ia_cons (im_var 2) (ia_cons (im_var 1) (ia_cons (im_cb rc_lenA (iaw_cons ((im_var 0)).w iaw_nil)) ia_nil))) (an_cons (an_cons (an_cons an_nil))))).w)) (im_var 2) (by decide))).w ((if_lst ia_nil)).w)))⟩
theorem ok_are_ends (T : Txt K mg) {f : Addr} {fd : FuncData} (Fn : Fun K "are_ends" "are_ends" s_are_ends f fd)  : FnG P WW.w K mg base 1 f fd ["value", "many"] (spD K 2 m_are_ends) :=
  fnD Fn sc_are_ends (by decide) fun cdv A outer s H E hr gd => ⟨_, (pss_cons (ps_if (PW.pt (pw_or (pt_not (pt_truth (pe_callB call_isi (by rfl) T.n_isinstance (by decide +kernel) (pa_cons (pv 0) (pa_cons (pe_tyName (by rfl) T.n_tuple (by decide +kernel)) pa_nil))) (by intro _; rfl))) (pw_or1 (pt_cmpR (op_neA hr.units) (pe_callB call_lenA (by rfl) T.n_len (by decide +kernel) (pa_cons (pv 0) pa_nil)) (pv 1) (nomark _)))))
 (pss_one (ps_ret pe_bl))
 pss_nil)
 (pss_one (ps_ret (pe_cmpR (op_eqA hr.units) (pe_lc (own := [("end", 2)]) (g := (gName 2)) rfl sc_are_ends.nd (pi_seq (pv 0)) (blkOk_by (own := [("end", 2)]) (N := ["value", "many", "end"]) (sc := defScope s_are_ends) (by decide +kernel)) (fun _ _ _ _ _ => (pg_name (i := 2) sc_are_ends.nd rfl (Or.inl rfl))) (fun _ _ _ _ _ => (pts_one (pt_not (pt_truth (pe_callB call_isi (by rfl) T.n_isinstance (by decide +kernel) (pa_cons (pv 2) (pa_cons (pe_tyName (by rfl) T.n_bool (by decide +kernel)) pa_nil))) (by intro _; rfl))))) (fun _ _ _ _ _ => (pv 2))) (pe_lst pa_nil) (nomark _))))),
 (is_seq (is_if (it_or (it_not (it_truth ((im_isi "tuple" ((im_var 0)).w)).w)) (it_test (im_op ro_ne ((im_cb rc_lenA (iaw_cons ((im_var 0)).w iaw_nil))).w ((im_var 1)).w)))
 (is_ret im_bl)
 is_next)
 (is_ret (im_op ro_eq ((if_comp (vs := [2]) (ii_seq (im_var 0)) (ig_name 2) (it_not (it_truth ((im_isi "bool" ((im_var 2)).w)).w)) (im_var 2) (by decide))).w ((if_lst ia_nil)).w)))⟩
theorem ok_kind_error (T : Txt K mg) {f : Addr} {fd : FuncData} (Fn : Fun K "kind_error" "kind_error" s_kind_error f fd) (c_is_integer_words : Cal P WW.w K mg base 1 "is_integer_words" ["value", "least", "most"] (spD K 3 m_is_integer_words)) (c_are_rows : Cal P WW.w K mg base 3 "are_rows" ["value", "letters"] (spD K 2 m_are_rows)) (c_are_ends : Cal P WW.w K mg base 1 "are_ends" ["value", "many"] (spD K 2 m_are_ends)) : FnG P WW.w K mg base 4 f fd ["value"] (spD K 1 m_kind_error) :=
  fnD Fn sc_kind_error (by decide) fun cdv A outer s H E hr gd => ⟨_, (pss_cons (ps_if (PW.pt (pw_or (pt_not (pt_truth (pe_callB call_isi (by rfl) T.n_isinstance (by decide +kernel) (pa_cons (pv 0) (pa_cons (pe_tyName (by rfl) T.n_tuple (by decide +kernel)) pa_nil))) (by intro _; rfl))) (pw_or1 (pt_cmpR (op_neA hr.units) (pe_callB call_lenA (by rfl) T.n_len (by decide +kernel) (pa_cons (pv 0) pa_nil)) pe_int (nomark _)))))
 (pss_one (ps_ret pe_str))
 pss_nil)
 (pss_cons (ps_if (pt_not (pt_truth (pe_callC c_is_integer_words hr gd (by rfl) (pa_cons (pe_sub (units1 hr.units) (pv 0) pe_int) (pa_cons pe_int (pa_cons (pe_gint (by rfl) T.c_MAX_LETTERS) pa_nil)))) (by intro _; rfl)))
 (pss_one (ps_ret pe_str))
 pss_nil)
 (pss_cons (ps_if (pt_not (pt_truth (pe_callC c_are_rows hr gd (by rfl) (pa_cons (pe_sub (units1 hr.units) (pv 0) pe_int) (pa_cons (pe_sub (units1 hr.units) (pv 0) pe_int) pa_nil))) (by intro _; rfl)))
 (pss_one (ps_ret pe_str))
 pss_nil)
 (pss_one (ps_ret (pe_ifExp (pt_truth (pe_callC c_are_ends hr gd (by rfl) (pa_cons (pe_sub (units1 hr.units) (pv 0) pe_int) (pa_cons (pe_callB call_lenA (by rfl) T.n_len (by decide +kernel) (pa_cons (pe_sub (units1 hr.units) (pv 0) pe_int) pa_nil)) pa_nil))) (by intro _; rfl)) pe_non pe_str)))))),
 (is_seq (is_if (it_or (it_not (it_truth ((im_isi "tuple" ((im_var 0)).w)).w)) (it_test (im_op ro_ne ((im_cb rc_lenA (iaw_cons ((im_var 0)).w iaw_nil))).w (im_int).w)))
 (is_ret im_str)
 is_next)
 (is_seq (is_if (it_not (it_truth ((im_call (ia_cons (im_sub ((im_var 0)).w (im_int).w) (ia_cons im_int (ia_cons im_int ia_nil))) (an_cons (an_cons (an_cons an_nil))))).w))
 (is_ret im_str)
 is_next)
 (is_seq (is_if (it_not (it_truth ((im_call (ia_cons (im_sub ((im_var 0)).w (im_int).w) (ia_cons (im_sub ((im_var 0)).w (im_int).w) ia_nil)) (an_cons (an_cons an_nil)))).w))
 (is_ret im_str)
 is_next)
 (is_ret (im_if (it_truth ((im_call (ia_cons (im_sub ((im_var 0)).w (im_int).w) (ia_cons (im_cb rc_lenA (iaw_cons ((im_sub ((im_var 0)).w (im_int).w)).w iaw_nil)) ia_nil)) (an_cons (an_cons an_nil)))).w) im_non im_str)))))⟩
theorem ok_is_integer_cuts (T : Txt K mg) {f : Addr} {fd : FuncData} (Fn : Fun K "is_integer" "is_integer" s_is_integer_cuts f fd)  : FnG P WW.w K mg base 1 f fd ["value", "least", "most"] (spD K 3 m_is_integer_cuts) :=
  fnD Fn sc_is_integer_cuts (by decide) fun cdv A outer s H E hr gd => ⟨_, (pss_one (ps_ret (L2.pe_and (pe_callB call_isi (by rfl) T.n_isinstance (by decide +kernel) (pa_cons (pv 0) (pa_cons (pe_tyName (by rfl) T.n_int (by decide +kernel)) pa_nil))) (L2.pe_and (pe_not (pe_callB call_isi (by rfl) T.n_isinstance (by decide +kernel) (pa_cons (pv 0) (pa_cons (pe_tyName (by rfl) T.n_bool (by decide +kernel)) pa_nil)))) (pe_one (pe_chain op_le op_le (pv 1) (pv 0) (pv 2))))))),
 (is_ret (im_andV (im_isi "int" ((im_var 0)).w) (im_andV (im_notV (im_isi "bool" ((im_var 0)).w)) (im_chain ro_le ro_le ((im_var 1)).w ((im_var 0)).w ((im_var 2)).w))))⟩
theorem ok_is_cut_limit (T : Txt K mg) {f : Addr} {fd : FuncData} (Fn : Fun K "is_cut_limit" "is_cut_limit" s_is_cut_limit f fd) (c_is_integer_cuts : Cal P WW.w K mg base 1 "is_integer_cuts" ["value", "least", "most"] (spD K 3 m_is_integer_cuts)) : FnG P WW.w K mg base 2 f fd ["units", "value"] (spD K 2 m_is_cut_limit) :=
  fnD Fn sc_is_cut_limit (by decide) fun cdv A outer s H E hr gd => ⟨_, (pss_cons (ps_if (PW.pt (pw_or (pt_not (pt_truth (pe_callB call_isi (by rfl) T.n_isinstance (by decide +kernel) (pa_cons (pv 1) (pa_cons (pe_tyName (by rfl) T.n_tuple (by decide +kernel)) pa_nil))) (by intro _; rfl))) (pw_or1 (pt_cmpR (op_neA hr.units) (pe_callB call_lenA (by rfl) T.n_len (by decide +kernel) (pa_cons (pv 1) pa_nil)) pe_int (nomark _)))))
 (pss_one (ps_ret pe_bl))
 pss_nil)
 (pss_one (ps_ret (L2.pe_and (pe_callC c_is_integer_cuts hr gd (by rfl) (pa_cons (pe_sub (units1 hr.units) (pv 1) pe_int) (pa_cons pe_int (pa_cons (pe_op op_sub (pe_callB call_lenA (by rfl) T.n_len (by decide +kernel) (pa_cons (pv 0) pa_nil)) pe_int) pa_nil)))) (pe_one (pe_callC c_is_integer_cuts hr gd (by rfl) (pa_cons (pe_sub (units1 hr.units) (pv 1) pe_int) (pa_cons pe_int (pa_cons (pe_gint (by rfl) T.c_MAX_CUT) pa_nil))))))))),
 (is_seq (is_if (it_or (it_not (it_truth ((im_isi "tuple" ((im_var 1)).w)).w)) (it_test (im_op ro_ne ((im_cb rc_lenA (iaw_cons ((im_var 1)).w iaw_nil))).w (im_int).w)))
 (is_ret im_bl)
 is_next)
 (is_ret (im_andV (im_call (ia_cons (im_sub ((im_var 1)).w (im_int).w) (ia_cons im_int (ia_cons (im_op ro_sub ((im_cb rc_lenA (iaw_cons ((im_var 0)).w iaw_nil))).w (im_int).w) ia_nil))) (an_cons (an_cons (an_cons an_nil)))) (im_call (ia_cons (im_sub ((im_var 1)).w (im_int).w) (ia_cons im_int (ia_cons im_int ia_nil))) (an_cons (an_cons (an_cons an_nil)))))))⟩
theorem ok_are_clinging (T : Txt K mg) {f : Addr} {fd : FuncData} (Fn : Fun K "are_clinging" "are_clinging" s_are_clinging f fd)  : FnG P WW.w K mg base 1 f fd ["letters", "value"] (spD K 2 m_are_clinging) :=
  fnD Fn sc_are_clinging (by decide) fun cdv A outer s H E hr gd => ⟨_, (pss_cons (ps_if (pt_not (pt_truth (pe_callB call_isi (by rfl) T.n_isinstance (by decide +kernel) (pa_cons (pv 1) (pa_cons (pe_tyName (by rfl) T.n_str (by decide +kernel)) pa_nil))) (by intro _; rfl)))
 (pss_one (ps_ret pe_bl))
 pss_nil)
 (pss_one (ps_ret (pe_cmpR (op_eqA hr.units) (pv 1) (pe_join pe_str (pe_lc (own := [("letter", 2)]) (g := (gName 2)) rfl sc_are_clinging.nd (pi_seq (pe_slice sl_any (pe_gstr (by rfl) T.c_LETTERS_limits) po_none (po_some (pv 0)))) (blkOk_by (own := [("letter", 2)]) (N := ["letters", "value", "letter"]) (sc := defScope s_are_clinging) (by decide +kernel)) (fun _ _ _ _ _ => (pg_name (i := 2) sc_are_clinging.nd rfl (Or.inl rfl))) (fun _ _ _ _ _ => (pts_one (pt_in (units1 hr.units) (pv 2) (pv 1)))) (fun _ _ _ _ _ => (pv 2)))) (nomark _))))),
 (is_seq (is_if (it_not (it_truth ((im_isi "str" ((im_var 1)).w)).w))
 (is_ret im_bl)
 is_next)
 (is_ret (im_op ro_eq ((im_var 1)).w ((im_m1 rm_join (im_str).w ((if_comp (vs := [2]) (ii_seq (im_sl rs_any (im_str).w io_none (io_some ((im_var 0)).w))) (ig_name 2) (it_test (im_in ((im_var 2)).w ((im_var 1)).w)) (im_var 2) (by decide))).w)).w)))⟩
theorem ok_is_cut (T : Txt K mg) {f : Addr} {fd : FuncData} (Fn : Fun K "is_cut" "is_cut" s_is_cut f fd) (c_is_cut_limit : Cal P WW.w K mg base 2 "is_cut_limit" ["units", "value"] (spD K 2 m_is_cut_limit)) (c_are_clinging : Cal P WW.w K mg base 1 "are_clinging" ["letters", "value"] (spD K 2 m_are_clinging)) : FnG P WW.w K mg base 3 f fd ["letters", "units", "value"] (spD K 3 m_is_cut) :=
  fnD Fn sc_is_cut (by decide) fun cdv A outer s H E hr gd => ⟨_, (pss_cons (ps_if (PW.pt (pw_or (pt_not (pt_truth (pe_callB call_isi (by rfl) T.n_isinstance (by decide +kernel) (pa_cons (pv 2) (pa_cons (pe_tyName (by rfl) T.n_tuple (by decide +kernel)) pa_nil))) (by intro _; rfl))) (pw_or1 (pt_cmpR (op_neA hr.units) (pe_callB call_lenA (by rfl) T.n_len (by decide +kernel) (pa_cons (pv 2) pa_nil)) pe_int (nomark _)))))
 (pss_one (ps_ret pe_bl))
 pss_nil)
 (pss_one (ps_ret (L2.pe_and (pe_callC c_is_cut_limit hr gd (by rfl) (pa_cons (pv 1) (pa_cons (pe_slice sl_any (pv 2) po_none (po_some pe_int)) pa_nil))) (pe_one (pe_callC c_are_clinging hr gd (by rfl) (pa_cons (pv 0) (pa_cons (pe_sub (units1 hr.units) (pv 2) pe_int) pa_nil)))))))),
 (is_seq (is_if (it_or (it_not (it_truth ((im_isi "tuple" ((im_var 2)).w)).w)) (it_test (im_op ro_ne ((im_cb rc_lenA (iaw_cons ((im_var 2)).w iaw_nil))).w (im_int).w)))
 (is_ret im_bl)
 is_next)
 (is_ret (im_andV (im_call (ia_cons (im_var 1) (ia_cons (im_sl rs_any ((im_var 2)).w io_none (io_some (im_int).w)) ia_nil)) (an_cons (an_cons an_nil))) (im_call (ia_cons (im_var 0) (ia_cons (im_sub ((im_var 2)).w (im_int).w) ia_nil)) (an_cons (an_cons an_nil))))))⟩
theorem ok_cuts_error (T : Txt K mg) {f : Addr} {fd : FuncData} (Fn : Fun K "cuts_error" "cuts_error" s_cuts_error f fd) (c_is_cut : Cal P WW.w K mg base 3 "is_cut" ["letters", "units", "value"] (spD K 3 m_is_cut)) : FnG P WW.w K mg base 4 f fd ["letters", "units", "value"] (spD K 3 m_cuts_error) :=
  fnD Fn sc_cuts_error (by decide) fun cdv A outer s H E hr gd => ⟨_, (pss_cons (ps_if (pt_not (pt_truth (pe_callB call_isi (by rfl) T.n_isinstance (by decide +kernel) (pa_cons (pv 2) (pa_cons (pe_tyName (by rfl) T.n_tuple (by decide +kernel)) pa_nil))) (by intro _; rfl)))
 (pss_one (ps_ret (pe_tup (pa_cons pe_non (pa_cons pe_str pa_nil)))))
 pss_nil)
 (pss_cons (ps_for PassesOwn.never rfl (pi_enumA (by rfl) T.n_enumerate (pa_cons (pv 2) pa_nil)) (pg_tup rfl (pgs_cons (pg_name (i := 3) sc_cuts_error.nd rfl (Or.inl rfl)) (pgs_cons (pg_name (i := 4) sc_cuts_error.nd rfl (Or.inl rfl)) pgs_nil)))
 (pss_one (ps_if (pt_not (pt_truth (pe_callC c_is_cut hr gd (by rfl) (pa_cons (pv 0) (pa_cons (pv 1) (pa_cons (pv 4) pa_nil)))) (by intro _; rfl)))
 (pss_one (ps_ret (pe_tup (pa_cons (pv 3) (pa_cons pe_str pa_nil)))))
 pss_nil)))
 (pss_one (ps_ret (pe_ifExp (pt_cmpR op_gt (pe_callB call_lenA (by rfl) T.n_len (by decide +kernel) (pa_cons (pv 2) pa_nil)) (pe_gint (by rfl) T.c_MAX_CUTS) (nomark _)) (pe_tup (pa_cons pe_non (pa_cons pe_str pa_nil))) pe_non))))),
 (is_seq (is_if (it_not (it_truth ((im_isi "tuple" ((im_var 2)).w)).w))
 (is_ret (im_tup (ia_cons im_non (ia_cons im_str ia_nil))))
 is_next)
 (is_seq (is_for (ii_enum (im_var 2)) (ig_tup (igs_cons (ig_name 3) (igs_cons (ig_name 4) igs_nil)))
 (is_if (it_not (it_truth ((im_call (ia_cons (im_var 0) (ia_cons (im_var 1) (ia_cons (im_var 4) ia_nil))) (an_cons (an_cons (an_cons an_nil))))).w))
 (is_ret (im_tup (ia_cons (im_var 3) (ia_cons im_str ia_nil))))
 is_next))
 (is_ret (im_if (it_test (im_op ro_gt ((im_cb rc_lenA (iaw_cons ((im_var 2)).w iaw_nil))).w (im_int).w)) (im_tup (ia_cons im_non (ia_cons im_str ia_nil))) im_non))))⟩
theorem ok_is_unit (T : Txt K mg) {f : Addr} {fd : FuncData} (Fn : Fun K "is_unit" "is_unit" s_is_unit f fd) (c_is_integer_cuts : Cal P WW.w K mg base 1 "is_integer_cuts" ["value", "least", "most"] (spD K 3 m_is_integer_cuts)) : FnG P WW.w K mg base 2 f fd ["letters", "value"] (spD K 2 m_is_unit) :=
  fnD Fn sc_is_unit (by decide) fun cdv A outer s H E hr gd => ⟨_, (pss_cons (ps_if (PW.pt (pw_or (pt_not (pt_truth (pe_callB call_isi (by rfl) T.n_isinstance (by decide +kernel) (pa_cons (pv 1) (pa_cons (pe_tyName (by rfl) T.n_tuple (by decide +kernel)) pa_nil))) (by intro _; rfl))) (pw_or1 (pt_cmpR (op_neA hr.units) (pe_callB call_lenA (by rfl) T.n_len (by decide +kernel) (pa_cons (pv 1) pa_nil)) (pv 0) (nomark _)))))
 (pss_one (ps_ret pe_bl))
 pss_nil)
 (pss_one (ps_ret (pe_cmpR (op_eqA hr.units) (pe_lc (own := [("item", 2)]) (g := (gName 2)) rfl sc_is_unit.nd (pi_seq (pv 1)) (blkOk_by (own := [("item", 2)]) (N := ["letters", "value", "item"]) (sc := defScope s_is_unit) (by decide +kernel)) (fun _ _ _ _ _ => (pg_name (i := 2) sc_is_unit.nd rfl (Or.inl rfl))) (fun _ _ _ _ _ => (pts_one (pt_not (pt_truth (pe_callC c_is_integer_cuts hr gd (by rfl) (pa_cons (pv 2) (pa_cons pe_int (pa_cons (pe_gint (by rfl) T.c_MAX_COUNT) pa_nil)))) (by intro _; rfl))))) (fun _ _ _ _ _ => (pv 2))) (pe_lst pa_nil) (nomark _))))),
 (is_seq (is_if (it_or (it_not (it_truth ((im_isi "tuple" ((im_var 1)).w)).w)) (it_test (im_op ro_ne ((im_cb rc_lenA (iaw_cons ((im_var 1)).w iaw_nil))).w ((im_var 0)).w)))
 (is_ret im_bl)
 is_next)
 (is_ret (im_op ro_eq ((if_comp (vs := [2]) (ii_seq (im_var 1)) (ig_name 2) (it_not (it_truth ((im_call (ia_cons (im_var 2) (ia_cons im_int (ia_cons im_int ia_nil))) (an_cons (an_cons (an_cons an_nil))))).w)) (im_var 2) (by decide))).w ((if_lst ia_nil)).w)))⟩
theorem ok_are_units (T : Txt K mg) {f : Addr} {fd : FuncData} (Fn : Fun K "are_units" "are_units" s_are_units f fd) (c_is_unit : Cal P WW.w K mg base 2 "is_unit" ["letters", "value"] (spD K 2 m_is_unit)) : FnG P WW.w K mg base 3 f fd ["letters", "value"] (spD K 2 m_are_units) :=
  fnD Fn sc_are_units (by decide) fun cdv A outer s H E hr gd => ⟨_, (pss_cons (ps_if (PW.pt (pw_or (pt_not (pt_truth (pe_callB call_isi (by rfl) T.n_isinstance (by decide +kernel) (pa_cons (pv 1) (pa_cons (pe_tyName (by rfl) T.n_tuple (by decide +kernel)) pa_nil))) (by intro _; rfl))) (pw_or1 (pt_not (pt_chain op_le op_le pe_int (pe_callB call_lenA (by rfl) T.n_len (by decide +kernel) (pa_cons (pv 1) pa_nil)) pe_int)))))
 (pss_one (ps_ret pe_bl))
 pss_nil)
 (pss_one (ps_ret (pe_cmpR (op_eqA hr.units) (pe_lc (own := [("unit", 2)]) (g := (gName 2)) rfl sc_are_units.nd (pi_seq (pv 1)) (blkOk_by (own := [("unit", 2)]) (N := ["letters", "value", "unit"]) (sc := defScope s_are_units) (by decide +kernel)) (fun _ _ _ _ _ => (pg_name (i := 2) sc_are_units.nd rfl (Or.inl rfl))) (fun _ _ _ _ _ => (pts_one (pt_not (pt_truth (pe_callC c_is_unit hr gd (by rfl) (pa_cons (pv 0) (pa_cons (pv 2) pa_nil))) (by intro _; rfl))))) (fun _ _ _ _ _ => (pv 2))) (pe_lst pa_nil) (nomark _))))),
 (is_seq (is_if (it_or (it_not (it_truth ((im_isi "tuple" ((im_var 1)).w)).w)) (it_not (it_test (im_chain ro_le ro_le (im_int).w ((im_cb rc_lenA (iaw_cons ((im_var 1)).w iaw_nil))).w (im_int).w))))
 (is_ret im_bl)
 is_next)
 (is_ret (im_op ro_eq ((if_comp (vs := [2]) (ii_seq (im_var 1)) (ig_name 2) (it_not (it_truth ((im_call (ia_cons (im_var 0) (ia_cons (im_var 2) ia_nil)) (an_cons (an_cons an_nil)))).w)) (im_var 2) (by decide))).w ((if_lst ia_nil)).w)))⟩
theorem ok_scheme_error (T : Txt K mg) {f : Addr} {fd : FuncData} (Fn : Fun K "scheme_error" "scheme_error" s_scheme_error f fd) (c_kind_error : Cal P WW.w K mg base 4 "kind_error" ["value"] (spD K 1 m_kind_error)) (c_are_units : Cal P WW.w K mg base 3 "are_units" ["letters", "value"] (spD K 2 m_are_units)) (c_cuts_error : Cal P WW.w K mg base 4 "cuts_error" ["letters", "units", "value"] (spD K 3 m_cuts_error)) : FnG P WW.w K mg base 5 f fd ["value"] (spD K 1 m_scheme_error) :=
  fnD Fn sc_scheme_error (by decide) fun cdv A outer s H E hr gd => ⟨_, (pss_cons (ps_if (PW.pt (pw_or (pt_not (pt_truth (pe_callB call_isi (by rfl) T.n_isinstance (by decide +kernel) (pa_cons (pv 0) (pa_cons (pe_tyName (by rfl) T.n_tuple (by decide +kernel)) pa_nil))) (by intro _; rfl))) (pw_or1 (pt_cmpR (op_neA hr.units) (pe_callB call_lenA (by rfl) T.n_len (by decide +kernel) (pa_cons (pv 0) pa_nil)) pe_int (nomark _)))))
 (pss_one (ps_ret (pe_tup (pa_cons pe_str (pa_cons pe_non pa_nil)))))
 pss_nil)
 (pss_cons (ps_asg (pv 0) (pg_tup rfl (pgs_cons (pg_name (i := 1) sc_scheme_error.nd rfl (Or.inl rfl)) (pgs_cons (pg_name (i := 2) sc_scheme_error.nd rfl (Or.inl rfl)) (pgs_cons (pg_name (i := 3) sc_scheme_error.nd rfl (Or.inl rfl)) pgs_nil)))))
 (pss_cons (ps_set (i := 4) sc_scheme_error.nd rfl (Or.inl rfl) (pe_callC c_kind_error hr gd (by rfl) (pa_cons (pv 1) pa_nil)))
 (pss_cons (ps_if (pt_cmpR op_notN (pv 4) pe_non (nomark _))
 (pss_one (ps_ret (pe_tup (pa_cons pe_str (pa_cons (pv 4) pa_nil)))))
 pss_nil)
 (pss_cons (ps_if (pt_not (pt_truth (pe_callC c_are_units hr gd (by rfl) (pa_cons (pe_sub (units1 hr.units) (pv 1) pe_int) (pa_cons (pv 2) pa_nil))) (by intro _; rfl)))
 (pss_one (ps_ret (pe_tup (pa_cons pe_str (pa_cons pe_non pa_nil)))))
 pss_nil)
 (pss_cons (ps_set (i := 4) sc_scheme_error.nd rfl (Or.inl rfl) (pe_callC c_cuts_error hr gd (by rfl) (pa_cons (pe_sub (units1 hr.units) (pv 1) pe_int) (pa_cons (pv 2) (pa_cons (pv 3) pa_nil)))))
 (pss_one (ps_ret (pe_ifExp (pt_cmpR op_isN (pv 4) pe_non (nomark _)) pe_non (pe_tup (pa_cons pe_str (pa_cons (pv 4) pa_nil)))))))))))),
 (is_seq (is_if (it_or (it_not (it_truth ((im_isi "tuple" ((im_var 0)).w)).w)) (it_test (im_op ro_ne ((im_cb rc_lenA (iaw_cons ((im_var 0)).w iaw_nil))).w (im_int).w)))
 (is_ret (im_tup (ia_cons im_str (ia_cons im_non ia_nil))))
 is_next)
 (is_seq (is_asg (im_var 0) (ig_tup (igs_cons (ig_name 1) (igs_cons (ig_name 2) (igs_cons (ig_name 3) igs_nil)))))
 (is_seq (is_asg (im_call (ia_cons (im_var 1) ia_nil) (an_cons an_nil)) (ig_name 4))
 (is_seq (is_if (it_test (im_op ro_isNot ((im_var 4)).w (im_non).w))
 (is_ret (im_tup (ia_cons im_str (ia_cons (im_var 4) ia_nil))))
 is_next)
 (is_seq (is_if (it_not (it_truth ((im_call (ia_cons (im_sub ((im_var 1)).w (im_int).w) (ia_cons (im_var 2) ia_nil)) (an_cons (an_cons an_nil)))).w))
 (is_ret (im_tup (ia_cons im_str (ia_cons im_non ia_nil))))
 is_next)
 (is_seq (is_asg (im_call (ia_cons (im_sub ((im_var 1)).w (im_int).w) (ia_cons (im_var 2) (ia_cons (im_var 3) ia_nil))) (an_cons (an_cons (an_cons an_nil)))) (ig_name 4))
 (is_ret (im_if (it_test (im_op ro_is ((im_var 4)).w (im_non).w)) im_non (im_tup (ia_cons im_str (ia_cons (im_var 4) ia_nil)))))))))))⟩
theorem ok_need_scheme (T : Txt K mg) {f : Addr} {fd : FuncData} (Fn : Fun K "need_scheme" "need_scheme" s_need_scheme f fd) (c_scheme_error : Cal P WW.w K mg base 5 "scheme_error" ["value"] (spD K 1 m_scheme_error)) : FnG P WW.w K mg base 6 f fd ["value"] (spD K 1 m_need_scheme) :=
  fnD Fn sc_need_scheme (by decide) fun cdv A outer s H E hr gd => ⟨_, (pss_cons (ps_set (i := 1) sc_need_scheme.nd rfl (Or.inl rfl) (pe_callC c_scheme_error hr gd (by rfl) (pa_cons (pv 0) pa_nil)))
 (pss_one (ps_if (pt_cmpR op_notN (pv 1) pe_non (nomark _))
 (pss_one ps_stuck)
 pss_nil))),
 (is_seq (is_asg (im_call (ia_cons (im_var 0) ia_nil) (an_cons an_nil)) (ig_name 1))
 (is_if (it_test (im_op ro_isNot ((im_var 1)).w (im_non).w))
 is_stuck
 is_next))⟩
theorem ok_Bench___init__ (T : Txt K mg) {f : Addr} {fd : FuncData} (Fn : FunV K "__init__" "Bench.__init__" s_Bench___init__ 1 f fd) (c_need_scheme : Cal P WW.w K mg base 6 "need_scheme" ["value"] (spD K 1 m_need_scheme)) : FnG P WW.w K mg base 7 f fd ["self", "kind", "units", "cuts"] (spD K 4 m_Bench___init__) :=
  fnDV Fn sc_Bench___init__ (by decide) fun cdv A outer s H E hr gd => ⟨_, (pss_cons (ps_expr (pe_callC c_need_scheme hr gd (by rfl) (pa_cons (pe_tup (pa_cons (pv 1) (pa_cons (pv 2) (pa_cons (pv 3) pa_nil)))) pa_nil)))
 (pss_cons (ps_fld (pv 0) (pv 1) rfl)
 (pss_cons (ps_fld (pv 0) (pv 2) rfl)
 (pss_cons (ps_fld (pv 0) (pv 3) rfl)
 (pss_cons (ps_fld (pv 0) (pv 3) rfl)
 (pss_cons (ps_fld (pv 0) (pe_lst pa_nil) rfl)
 (pss_cons (ps_fld (pv 0) (pe_lst pa_nil) rfl)
 (pss_one (ps_fld (pv 0) pe_bl rfl))))))))),
 (is_seq (is_drop (im_call (ia_cons (im_tup (ia_cons (im_var 1) (ia_cons (im_var 2) (ia_cons (im_var 3) ia_nil)))) ia_nil) (an_cons an_nil)))
 (is_seq (is_setf (cs1 T.cl_Bench) (by decide) (im_var 0) (im_var 1))
 (is_seq (is_setf (cs1 T.cl_Bench) (by decide) (im_var 0) (im_var 2))
 (is_seq (is_setf (cs1 T.cl_Bench) (by decide) (im_var 0) (im_var 3))
 (is_seq (is_setf (cs1 T.cl_Bench) (by decide) (im_var 0) (im_var 3))
 (is_seq (is_setf (cs1 T.cl_Bench) (by decide) (im_var 0) ((if_lst ia_nil)).im)
 (is_seq (is_setf (cs1 T.cl_Bench) (by decide) (im_var 0) ((if_lst ia_nil)).im)
 (is_setf (cs1 T.cl_Bench) (by decide) (im_var 0) im_bl))))))))⟩
theorem ok__law_index (T : Txt K mg) {f : Addr} {fd : FuncData} (Fn : Fun K "_law_index" "_law_index" s__law_index f fd) (c__law_draw : Cal P WW.w K mg base 1 "_law_draw" ["_law_deck_here", "_law_many"] (spD K 2 m__law_draw)) (c__law_one : Cal P WW.w K mg base 2 "_law_one" ["_law_deck_here", "_law_items"] (spD K 2 m__law_one)) : FnG P WW.w K mg base 3 f fd ["_law_deck_here", "_law_many"] (spD K 2 m__law_index) :=
  fnD Fn sc__law_index (by decide) fun cdv A outer s H E hr gd => ⟨_, (pss_cons (ps_if (PW.pt (pw_and (pt_cmpR op_gt (pv 1) pe_int (nomark _)) (pw_and1 (pt_cmpR op_gt (pe_callC c__law_draw hr gd (by rfl) (pa_cons (pv 0) (pa_cons pe_int pa_nil))) pe_int (nomark _)))))
 (pss_one (ps_ret (pe_callC c__law_draw hr gd (by rfl) (pa_cons (pv 0) (pa_cons (pv 1) pa_nil)))))
 pss_nil)
 (pss_one (ps_ret (pe_callC c__law_one hr gd (by rfl) (pa_cons (pv 0) (pa_cons (pe_lst (pa_cons (pv 1) (pa_cons (pe_un un_neg pe_int) (pa_cons pe_bl (pa_cons pe_non (pa_cons pe_str (pa_cons (pe_tup (pa_cons pe_int pa_nil)) (pa_cons (pe_lst (pa_cons pe_int pa_nil)) (pa_cons (pe_op op_pow pe_int pe_int) (pa_cons pe_dnewK (pa_cons (pe_tup pa_nil) pa_nil))))))))))) pa_nil)))))),
 (is_seq (is_if (it_and (it_test (im_op ro_gt ((im_var 1)).w (im_int).w)) (it_test (im_op ro_gt ((im_call (ia_cons (im_var 0) (ia_cons im_int ia_nil)) (an_cons (an_cons an_nil)))).w (im_int).w)))
 (is_ret (im_call (ia_cons (im_var 0) (ia_cons (im_var 1) ia_nil)) (an_cons (an_cons an_nil))))
 is_next)
 (is_ret (im_call (ia_cons (im_var 0) (ia_cons ((if_lst (ia_cons (im_var 1) (ia_cons (im_neg (im_int).w) (ia_cons im_bl (ia_cons im_non (ia_cons im_str (ia_cons (im_tup (ia_cons im_int ia_nil)) (ia_cons ((if_lst (ia_cons im_int ia_nil))).im (ia_cons (im_op ro_pow (im_int).w (im_int).w) (ia_cons (ik_new).im (ia_cons (im_tup ia_nil) ia_nil)))))))))))).im ia_nil)) (an_cons (an_cons an_nil)))))⟩
theorem ok__law_some (T : Txt K mg) {f : Addr} {fd : FuncData} (Fn : Fun K "_law_some" "_law_some" s__law_some f fd) (c__law_draw : Cal P WW.w K mg base 1 "_law_draw" ["_law_deck_here", "_law_many"] (spD K 2 m__law_draw)) (c__law_one : Cal P WW.w K mg base 2 "_law_one" ["_law_deck_here", "_law_items"] (spD K 2 m__law_one)) (c__law_cut : Cal P WW.w K mg base 2 "_law_cut" ["_law_deck_here", "_law_letters", "_law_units_here", "_law_most"] (spD K 4 m__law_cut)) : FnG P WW.w K mg base 3 f fd ["_law_deck_here", "_law_shape"] (spD K 2 m__law_some) :=
  fnD Fn sc__law_some (by decide) fun cdv A outer s H E hr gd => ⟨_, (pss_cons (ps_if (pt_cmpR (op_eqA hr.units) (pe_callC c__law_draw hr gd (by rfl) (pa_cons (pv 0) (pa_cons pe_int pa_nil))) pe_int (nomark _))
 (pss_cons (ps_set (i := 2) sc__law_some.nd rfl (Or.inl rfl) (pe_lst (pa_cons pe_non (pa_cons pe_str (pa_cons (pe_tup (pa_cons pe_int (pa_cons pe_int pa_nil))) (pa_cons (pe_tup (pa_cons pe_int (pa_cons pe_int (pa_cons pe_str (pa_cons pe_str pa_nil))))) (pa_cons (pe_lst (pa_cons pe_int (pa_cons pe_int (pa_cons pe_str pa_nil)))) (pa_cons (pe_tup (pa_cons pe_int (pa_cons pe_int (pa_cons pe_str pa_nil)))) (pa_cons (pe_tup (pa_cons pe_int (pa_cons pe_int (pa_cons pe_str pa_nil)))) (pa_cons (pe_tup (pa_cons pe_int (pa_cons (pe_un un_neg pe_int) (pa_cons pe_str pa_nil)))) (pa_cons (pe_tup (pa_cons pe_bl (pa_cons pe_int (pa_cons pe_str pa_nil)))) pa_nil)))))))))))
 (pss_cons (ps_set (i := 2) sc__law_some.nd rfl (Or.inl rfl) (pe_op op_addA (pv 2) (pe_lst (pa_cons (pe_tup (pa_cons pe_int (pa_cons pe_bl (pa_cons pe_str pa_nil)))) (pa_cons (pe_tup (pa_cons pe_int (pa_cons pe_int (pa_cons pe_non pa_nil)))) (pa_cons (pe_tup (pa_cons pe_int (pa_cons pe_int (pa_cons pe_str pa_nil)))) (pa_cons (pe_tup (pa_cons pe_int (pa_cons pe_int (pa_cons pe_str pa_nil)))) (pa_cons (pe_tup (pa_cons pe_int (pa_cons pe_int (pa_cons pe_str pa_nil)))) (pa_cons (pe_tup (pa_cons pe_int (pa_cons pe_int (pa_cons (pe_lst (pa_cons pe_str pa_nil)) pa_nil)))) (pa_cons pe_dnewK (pa_cons pe_int (pa_cons (pe_tup pa_nil) pa_nil))))))))))))
 (pss_one (ps_ret (pe_callC c__law_one hr gd (by rfl) (pa_cons (pv 0) (pa_cons (pe_op op_addA (pv 2) (pe_lst (pa_cons (pe_tup (pa_cons pe_str (pa_cons pe_int (pa_cons pe_str pa_nil)))) (pa_cons (pe_tup (pa_cons pe_int (pa_cons pe_str (pa_cons pe_str pa_nil)))) (pa_cons (pe_tup (pa_cons (pe_lst pa_nil) (pa_cons pe_dnewK (pa_cons pe_str pa_nil)))) (pa_cons (pe_tup (pa_cons pe_int (pa_cons (pe_op op_pow pe_int pe_int) (pa_cons pe_str pa_nil)))) pa_nil)))))) pa_nil)))))))
 pss_nil)
 (pss_one (ps_ret (pe_callC c__law_cut hr gd (by rfl) (pa_cons (pv 0) (pa_cons (pe_sub (units1 hr.units) (pv 1) pe_int) (pa_cons (pe_sub (units1 hr.units) (pv 1) pe_int) (pa_cons (pe_callC c__law_one hr gd (by rfl) (pa_cons (pv 0) (pa_cons (pe_lst (pa_cons pe_int (pa_cons pe_int (pa_cons pe_int pa_nil)))) pa_nil))) pa_nil)))))))),
 (is_seq (is_if (it_test (im_op ro_eq ((im_call (ia_cons (im_var 0) (ia_cons im_int ia_nil)) (an_cons (an_cons an_nil)))).w (im_int).w))
 (is_seq (is_asg ((if_lst (ia_cons im_non (ia_cons im_str (ia_cons (im_tup (ia_cons im_int (ia_cons im_int ia_nil))) (ia_cons (im_tup (ia_cons im_int (ia_cons im_int (ia_cons im_str (ia_cons im_str ia_nil))))) (ia_cons ((if_lst (ia_cons im_int (ia_cons im_int (ia_cons im_str ia_nil))))).im (ia_cons (im_tup (ia_cons im_int (ia_cons im_int (ia_cons im_str ia_nil)))) (ia_cons (im_tup (ia_cons im_int (ia_cons im_int (ia_cons im_str ia_nil)))) (ia_cons (im_tup (ia_cons im_int (ia_cons (im_neg (im_int).w) (ia_cons im_str ia_nil)))) (ia_cons (im_tup (ia_cons im_bl (ia_cons im_int (ia_cons im_str ia_nil)))) ia_nil))))))))))).im (ig_name 2))
 (is_seq (is_asg (im_op ro_addA ((im_var 2)).w ((if_lst (ia_cons (im_tup (ia_cons im_int (ia_cons im_bl (ia_cons im_str ia_nil)))) (ia_cons (im_tup (ia_cons im_int (ia_cons im_int (ia_cons im_non ia_nil)))) (ia_cons (im_tup (ia_cons im_int (ia_cons im_int (ia_cons im_str ia_nil)))) (ia_cons (im_tup (ia_cons im_int (ia_cons im_int (ia_cons im_str ia_nil)))) (ia_cons (im_tup (ia_cons im_int (ia_cons im_int (ia_cons im_str ia_nil)))) (ia_cons (im_tup (ia_cons im_int (ia_cons im_int (ia_cons ((if_lst (ia_cons im_str ia_nil))).im ia_nil)))) (ia_cons (ik_new).im (ia_cons im_int (ia_cons (im_tup ia_nil) ia_nil))))))))))).w) (ig_name 2))
 (is_ret (im_call (ia_cons (im_var 0) (ia_cons (im_op ro_addA ((im_var 2)).w ((if_lst (ia_cons (im_tup (ia_cons im_str (ia_cons im_int (ia_cons im_str ia_nil)))) (ia_cons (im_tup (ia_cons im_int (ia_cons im_str (ia_cons im_str ia_nil)))) (ia_cons (im_tup (ia_cons ((if_lst ia_nil)).im (ia_cons (ik_new).im (ia_cons im_str ia_nil)))) (ia_cons (im_tup (ia_cons im_int (ia_cons (im_op ro_pow (im_int).w (im_int).w) (ia_cons im_str ia_nil)))) ia_nil)))))).w) ia_nil)) (an_cons (an_cons an_nil))))))
 is_next)
 (is_ret (im_call (ia_cons (im_var 0) (ia_cons (im_sub ((im_var 1)).w (im_int).w) (ia_cons (im_sub ((im_var 1)).w (im_int).w) (ia_cons (im_call (ia_cons (im_var 0) (ia_cons ((if_lst (ia_cons im_int (ia_cons im_int (ia_cons im_int ia_nil))))).im ia_nil)) (an_cons (an_cons an_nil))) ia_nil)))) (an_cons (an_cons (an_cons (an_cons an_nil)))))))⟩
theorem ok__law_edit (T : Txt K mg) {f : Addr} {fd : FuncData} (Fn : Fun K "_law_edit" "_law_edit" s__law_edit f fd) (c__law_one : Cal P WW.w K mg base 2 "_law_one" ["_law_deck_here", "_law_items"] (spD K 2 m__law_one)) (c__law_some : Cal P WW.w K mg base 3 "_law_some" ["_law_deck_here", "_law_shape"] (spD K 2 m__law_some)) (c__law_index : Cal P WW.w K mg base 3 "_law_index" ["_law_deck_here", "_law_many"] (spD K 2 m__law_index)) : FnG P WW.w K mg base 4 f fd ["_law_deck_here", "_law_shape", "_law_cuts"] (spD K 3 m__law_edit) :=
  fnD Fn sc__law_edit (by decide) fun cdv A outer s H E hr gd => ⟨_, (pss_cons (ps_set (i := 3) sc__law_edit.nd rfl (Or.inl rfl) (pe_callC c__law_one hr gd (by rfl) (pa_cons (pv 0) (pa_cons (pe_lst (pa_cons pe_str (pa_cons pe_str (pa_cons pe_str (pa_cons pe_str (pa_cons pe_str (pa_cons pe_str (pa_cons pe_str (pa_cons pe_str (pa_cons pe_str pa_nil)))))))))) pa_nil))))
 (pss_cons (ps_if (pt_cmpR (op_eqA hr.units) (pv 3) pe_str (nomark _))
 (pss_one (ps_ret (pe_tup (pa_cons (pv 3) (pa_cons (pe_callC c__law_some hr gd (by rfl) (pa_cons (pv 0) (pa_cons (pv 1) pa_nil))) pa_nil)))))
 pss_nil)
 (pss_cons (ps_set (i := 4) sc__law_edit.nd rfl (Or.inl rfl) (pe_callC c__law_index hr gd (by rfl) (pa_cons (pv 0) (pa_cons (pe_callB call_lenA (by rfl) T.n_len (by decide +kernel) (pa_cons (pv 2) pa_nil)) pa_nil))))
 (pss_cons (ps_if (pt_cmpR (op_eqA hr.units) (pv 3) pe_str (nomark _))
 (pss_one (ps_ret (pe_tup (pa_cons (pv 3) (pa_cons (pv 4) (pa_cons (pe_callC c__law_one hr gd (by rfl) (pa_cons (pv 0) (pa_cons (pe_lst (pa_cons pe_int (pa_cons pe_int (pa_cons pe_int (pa_cons pe_int (pa_cons pe_int (pa_cons pe_int (pa_cons pe_int (pa_cons pe_int (pa_cons pe_int (pa_cons (pe_un un_neg pe_int) (pa_cons pe_int (pa_cons pe_bl (pa_cons pe_non (pa_cons pe_str (pa_cons (pe_tup pa_nil) (pa_cons (pe_op op_pow pe_int pe_int) pa_nil))))))))))))))))) pa_nil))) pa_nil))))))
 pss_nil)
 (pss_one (ps_ret (pe_ifExp (pt_cmpR (op_eqA hr.units) (pv 3) pe_str (nomark _)) (pe_tup (pa_cons (pv 3) (pa_cons (pv 4) (pa_cons (pe_callC c__law_some hr gd (by rfl) (pa_cons (pv 0) (pa_cons (pv 1) pa_nil))) pa_nil)))) (pe_tup (pa_cons (pv 3) (pa_cons (pv 4) pa_nil)))))))))),
 (is_seq (is_asg (im_call (ia_cons (im_var 0) (ia_cons ((if_lst (ia_cons im_str (ia_cons im_str (ia_cons im_str (ia_cons im_str (ia_cons im_str (ia_cons im_str (ia_cons im_str (ia_cons im_str (ia_cons im_str ia_nil))))))))))).im ia_nil)) (an_cons (an_cons an_nil))) (ig_name 3))
 (is_seq (is_if (it_test (im_op ro_eq ((im_var 3)).w (im_str).w))
 (is_ret (im_tup (ia_cons (im_var 3) (ia_cons (im_call (ia_cons (im_var 0) (ia_cons (im_var 1) ia_nil)) (an_cons (an_cons an_nil))) ia_nil))))
 is_next)
 (is_seq (is_asg (im_call (ia_cons (im_var 0) (ia_cons (im_cb rc_lenA (iaw_cons ((im_var 2)).w iaw_nil)) ia_nil)) (an_cons (an_cons an_nil))) (ig_name 4))
 (is_seq (is_if (it_test (im_op ro_eq ((im_var 3)).w (im_str).w))
 (is_ret (im_tup (ia_cons (im_var 3) (ia_cons (im_var 4) (ia_cons (im_call (ia_cons (im_var 0) (ia_cons ((if_lst (ia_cons im_int (ia_cons im_int (ia_cons im_int (ia_cons im_int (ia_cons im_int (ia_cons im_int (ia_cons im_int (ia_cons im_int (ia_cons im_int (ia_cons (im_neg (im_int).w) (ia_cons im_int (ia_cons im_bl (ia_cons im_non (ia_cons im_str (ia_cons (im_tup ia_nil) (ia_cons (im_op ro_pow (im_int).w (im_int).w) ia_nil)))))))))))))))))).im ia_nil)) (an_cons (an_cons an_nil))) ia_nil)))))
 is_next)
 (is_ret (im_if (it_test (im_op ro_eq ((im_var 3)).w (im_str).w)) (im_tup (ia_cons (im_var 3) (ia_cons (im_var 4) (ia_cons (im_call (ia_cons (im_var 0) (ia_cons (im_var 1) ia_nil)) (an_cons (an_cons an_nil))) ia_nil)))) (im_tup (ia_cons (im_var 3) (ia_cons (im_var 4) ia_nil)))))))))⟩
theorem ok__law_is_number (T : Txt K mg) {f : Addr} {fd : FuncData} (Fn : Fun K "_law_is_number" "_law_is_number" s__law_is_number f fd)  : FnG P WW.w K mg base 1 f fd ["_law_value", "_law_least", "_law_most"] (spD K 3 m__law_is_number) :=
  fnD Fn sc__law_is_number (by decide) fun cdv A outer s H E hr gd => ⟨_, (pss_one (ps_ret (L2.pe_and (pe_callB call_isi (by rfl) T.n_isinstance (by decide +kernel) (pa_cons (pv 0) (pa_cons (pe_tyName (by rfl) T.n_int (by decide +kernel)) pa_nil))) (L2.pe_and (pe_not (pe_callB call_isi (by rfl) T.n_isinstance (by decide +kernel) (pa_cons (pv 0) (pa_cons (pe_tyName (by rfl) T.n_bool (by decide +kernel)) pa_nil)))) (pe_one (pe_chain op_le op_le (pv 1) (pv 0) (pv 2))))))),
 (is_ret (im_andV (im_isi "int" ((im_var 0)).w) (im_andV (im_notV (im_isi "bool" ((im_var 0)).w)) (im_chain ro_le ro_le ((im_var 1)).w ((im_var 0)).w ((im_var 2)).w))))⟩
theorem ok__law_backed (T : Txt K mg) {f : Addr} {fd : FuncData} (Fn : Fun K "_law_backed" "_law_backed" s__law_backed f fd)  : FnG P WW.w K mg base 1 f fd ["_law_steps", "_law_undone", "_law_way"] (spD K 3 m__law_backed) :=
  fnD Fn sc__law_backed (by decide) fun cdv A outer s H E hr gd => ⟨_, (pss_cons (ps_asg (pe_ifExp (pt_cmpR (op_eqA hr.units) (pv 2) pe_int (nomark _)) (pe_tup (pa_cons (pv 0) (pa_cons (pv 1) pa_nil))) (pe_tup (pa_cons (pv 1) (pa_cons (pv 0) pa_nil)))) (pg_tup rfl (pgs_cons (pg_name (i := 3) sc__law_backed.nd rfl (Or.inl rfl)) (pgs_cons (pg_name (i := 4) sc__law_backed.nd rfl (Or.inl rfl)) pgs_nil))))
 (pss_cons (ps_if (pt_cmpR (op_ltA hr.units) (pe_callB call_lenA (by rfl) T.n_len (by decide +kernel) (pa_cons (pv 3) pa_nil)) (pe_op op_sub pe_int (pv 2)) (nomark _))
 (pss_one (ps_ret (pe_lst (pa_cons (pe_ifExp (pt_cmpR (op_eqA hr.units) (pv 2) pe_int (nomark _)) pe_str pe_str) pa_nil))))
 pss_nil)
 (pss_cons (ps_expr (pe_bm PySem.F.plainAttrs_list PySem.F.slot_list_append PySem.F.type_list_append mt_append (pv 4) (pa_cons (pe_bm0 PySem.F.plainAttrs_list PySem.F.slot_list_pop PySem.F.type_list_pop mt_pop (pv 3)) pa_nil)))
 (pss_one (ps_ret (pe_lst (pa_cons pe_str (pa_cons (pe_op op_sub (pe_callB call_lenA (by rfl) T.n_len (by decide +kernel) (pa_cons (pv 0) pa_nil)) pe_int) pa_nil)))))))),
 (is_seq (is_asg (im_if (it_test (im_op ro_eq ((im_var 2)).w (im_int).w)) (im_tup (ia_cons (im_var 0) (ia_cons (im_var 1) ia_nil))) (im_tup (ia_cons (im_var 1) (ia_cons (im_var 0) ia_nil)))) (ig_tup (igs_cons (ig_name 3) (igs_cons (ig_name 4) igs_nil))))
 (is_seq (is_if (it_test (im_op ro_ltA ((im_cb rc_lenA (iaw_cons ((im_var 3)).w iaw_nil))).w ((im_op ro_sub (im_int).w ((im_var 2)).w)).w))
 (is_ret ((if_lst (ia_cons (im_if (it_test (im_op ro_eq ((im_var 2)).w (im_int).w)) im_str im_str) ia_nil))).im)
 is_next)
 (is_seq (is_sapp (im_var 4) (im_spop (im_var 3)))
 (is_ret ((if_lst (ia_cons im_str (ia_cons (im_op ro_sub ((im_cb rc_lenA (iaw_cons ((im_var 0)).w iaw_nil))).w (im_int).w) ia_nil)))).im))))⟩
theorem ok_Bench_idle (T : Txt K mg) {f : Addr} {fd : FuncData} (Fn : Fun K "idle" "Bench.idle" s_Bench_idle f fd)  : FnG P WW.w K mg base 1 f fd ["self"] (spD K 1 m_Bench_idle) :=
  fnD Fn sc_Bench_idle (by decide) fun cdv A outer s H E hr gd => ⟨_, (pss_one (ps_if (pt_truth (pe_fld (pv 0) rfl) (by intro _; rfl))
 (pss_one ps_stuck)
 pss_nil)),
 (is_if (it_truth ((im_fld (cs1 T.cl_Bench) (by decide) (im_var 0))).w)
 is_stuck
 is_next)⟩
theorem ok_Bench_stand (T : Txt K mg) {f : Addr} {fd : FuncData} (Fn : Fun K "stand" "Bench.stand" s_Bench_stand f fd)  : FnG P WW.w K mg base 1 f fd ["self", "standing"] (spD K 2 m_Bench_stand) :=
  fnD Fn sc_Bench_stand (by decide) fun cdv A outer s H E hr gd => ⟨_, (pss_cons (ps_fld (pv 0) (pv 1) rfl)
 (pss_cons (ps_fld (pv 0) (pe_ifExp (pt_cmpR (op_neA hr.units) (pv 1) (pe_lst pa_nil) (nomark _)) (pe_sub (units1 hr.units) (pe_sub (units1 hr.units) (pv 1) (pe_un un_neg pe_int)) pe_int) (pe_fld (pv 0) rfl)) rfl)
 (pss_one (ps_ret (pe_callB call_lenA (by rfl) T.n_len (by decide +kernel) (pa_cons (pv 1) pa_nil)))))),
 (is_seq (is_setf (cs1 T.cl_Bench) (by decide) (im_var 0) (im_var 1))
 (is_seq (is_setf (cs1 T.cl_Bench) (by decide) (im_var 0) (im_if (it_test (im_op ro_ne ((im_var 1)).w ((if_lst ia_nil)).w)) (im_sub ((im_sub ((im_var 1)).w ((im_neg (im_int).w)).w)).w (im_int).w) (im_fld (cs1 T.cl_Bench) (by decide) (im_var 0))))
 (is_ret (im_cb rc_lenA (iaw_cons ((im_var 1)).w iaw_nil)))))⟩
theorem ok_Bench_undo (T : Txt K mg) {f : Addr} {fd : FuncData} (Fn : Fun K "undo" "Bench.undo" s_Bench_undo f fd) (c_Bench_idle : CalM P WW.w K mg base 1 "Bench" "idle" ["self"] (spD K 1 m_Bench_idle)) (c_Bench_stand : CalM P WW.w K mg base 1 "Bench" "stand" ["self", "standing"] (spD K 2 m_Bench_stand)) {C_NothingToUndo : Addr} (x_NothingToUndo : XN K mg "NothingToUndo" C_NothingToUndo) : FnX P WW.w K mg base 3 f fd ["self"] (spX K mg 1 m_Bench_undo) :=
  fnDX Fn sc_Bench_undo (by decide) fun cdv A outer s H E hr gd => ⟨_, (pss_cons (ps_expr (pe_methC0 c_Bench_idle hr gd (pv 0)))
 (pss_cons (ps_if (pt_cmpR (op_eqA hr.units) (pe_fld (pv 0) rfl) (pe_lst pa_nil) (nomark _))
 (pss_one (ps_raiseN rfl x_NothingToUndo (takes_of rfl rfl rfl rfl)))
 pss_nil)
 (pss_cons (ps_fld (pv 0) (pe_op op_addA (pe_fld (pv 0) rfl) (pe_slice sl_any (pe_fld (pv 0) rfl) (po_some (pe_un un_neg pe_int)) po_none)) rfl)
 (pss_one (ps_ret (pe_methC c_Bench_stand hr gd (pv 0) (pa_cons (pe_slice sl_any (pe_fld (pv 0) rfl) po_none (po_some (pe_un un_neg pe_int))) pa_nil))))))),
 (isx_seq (isx_li (is_drop (im_methC c_Bench_idle (im_var 0) ia_nil an_nil)))
 (isx_seq (isx_if (it_test (im_op ro_eq ((im_fld (cs1 T.cl_Bench) (by decide) (im_var 0))).w ((if_lst ia_nil)).w))
 (isx_raiseN x_NothingToUndo)
 (isx_li is_next))
 (isx_seq (isx_li (is_setf (cs1 T.cl_Bench) (by decide) (im_var 0) (im_op ro_addA ((im_fld (cs1 T.cl_Bench) (by decide) (im_var 0))).w ((im_sl rs_any ((im_fld (cs1 T.cl_Bench) (by decide) (im_var 0))).w (io_some ((im_neg (im_int).w)).w) io_none)).w)))
 (isx_li (is_ret (im_methC c_Bench_stand (im_var 0) (ia_cons (im_sl rs_any ((im_fld (cs1 T.cl_Bench) (by decide) (im_var 0))).w io_none (io_some ((im_neg (im_int).w)).w)) ia_nil) (an_cons an_nil)))))))⟩
theorem ok_Bench_redo (T : Txt K mg) {f : Addr} {fd : FuncData} (Fn : Fun K "redo" "Bench.redo" s_Bench_redo f fd) (c_Bench_idle : CalM P WW.w K mg base 1 "Bench" "idle" ["self"] (spD K 1 m_Bench_idle)) (c_Bench_stand : CalM P WW.w K mg base 1 "Bench" "stand" ["self", "standing"] (spD K 2 m_Bench_stand)) {C_NothingToRedo : Addr} (x_NothingToRedo : XN K mg "NothingToRedo" C_NothingToRedo) : FnX P WW.w K mg base 3 f fd ["self"] (spX K mg 1 m_Bench_redo) :=
  fnDX Fn sc_Bench_redo (by decide) fun cdv A outer s H E hr gd => ⟨_, (pss_cons (ps_expr (pe_methC0 c_Bench_idle hr gd (pv 0)))
 (pss_cons (ps_if (pt_cmpR (op_eqA hr.units) (pe_fld (pv 0) rfl) (pe_lst pa_nil) (nomark _))
 (pss_one (ps_raiseN rfl x_NothingToRedo (takes_of rfl rfl rfl rfl)))
 pss_nil)
 (pss_cons (ps_set (i := 1) sc_Bench_redo.nd rfl (Or.inl rfl) (pe_sub (units1 hr.units) (pe_fld (pv 0) rfl) (pe_un un_neg pe_int)))
 (pss_cons (ps_fld (pv 0) (pe_slice sl_any (pe_fld (pv 0) rfl) po_none (po_some (pe_un un_neg pe_int))) rfl)
 (pss_one (ps_ret (pe_methC c_Bench_stand hr gd (pv 0) (pa_cons (pe_op op_addA (pe_fld (pv 0) rfl) (pe_lst (pa_cons (pv 1) pa_nil))) pa_nil)))))))),
 (isx_seq (isx_li (is_drop (im_methC c_Bench_idle (im_var 0) ia_nil an_nil)))
 (isx_seq (isx_if (it_test (im_op ro_eq ((im_fld (cs1 T.cl_Bench) (by decide) (im_var 0))).w ((if_lst ia_nil)).w))
 (isx_raiseN x_NothingToRedo)
 (isx_li is_next))
 (isx_seq (isx_li (is_asg (im_sub ((im_fld (cs1 T.cl_Bench) (by decide) (im_var 0))).w ((im_neg (im_int).w)).w) (ig_name 1)))
 (isx_seq (isx_li (is_setf (cs1 T.cl_Bench) (by decide) (im_var 0) (im_sl rs_any ((im_fld (cs1 T.cl_Bench) (by decide) (im_var 0))).w io_none (io_some ((im_neg (im_int).w)).w))))
 (isx_li (is_ret (im_methC c_Bench_stand (im_var 0) (ia_cons (im_op ro_addA ((im_fld (cs1 T.cl_Bench) (by decide) (im_var 0))).w ((if_lst (ia_cons (im_var 1) ia_nil))).w) ia_nil) (an_cons an_nil))))))))⟩
theorem ok__law_back (T : Txt K mg) {f : Addr} {fd : FuncData} (Fn : Fun K "_law_back" "_law_back" s__law_back f fd) (c_Bench_undo : CalMX P WW.w K mg base 3 "Bench" "undo" ["self"] (spX K mg 1 m_Bench_undo)) (c_Bench_redo : CalMX P WW.w K mg base 3 "Bench" "redo" ["self"] (spX K mg 1 m_Bench_redo)) {C_NothingToUndo : Addr} (x_NothingToUndo : XN K mg "NothingToUndo" C_NothingToUndo) {C_NothingToRedo : Addr} (x_NothingToRedo : XN K mg "NothingToRedo" C_NothingToRedo) (e_NothingToUndo_NothingToUndo : PySem.W.exmOne K (.ref C_NothingToUndo) (.ref C_NothingToUndo) = some true) (e_NothingToRedo_NothingToUndo : PySem.W.exmOne K (.ref C_NothingToRedo) (.ref C_NothingToUndo) = some false) (e_NothingToRedo_NothingToRedo : PySem.W.exmOne K (.ref C_NothingToRedo) (.ref C_NothingToRedo) = some true) : FnG P WW.w K mg base 4 f fd ["_law_bench", "_law_word"] (spD K 2 m__law_back) :=
  fnD Fn sc__law_back (by decide) fun cdv A outer s H E hr gd => ⟨_, (pss_cons (ps_tryG rfl rfl sc__law_back.nd (fun W pn xe tk _ =>
 (pss_one (ps_set (i := 2) sc__law_back.nd rfl (Or.inl rfl) (pe_lst (pa_cons pe_str (pa_cons (pe_ifExp (pt_cmpR (op_eqA hr.units) (pv 1) pe_str (nomark _)) (pe_methXC0 c_Bench_undo hr gd (fun σ => passAt tk σ) (pv 0)) (pe_methXC0 c_Bench_redo hr gd (fun σ => passAt tk σ) (pv 0))) pa_nil)))))) (HdsG.bare ⟨by rfl, by decide, .inl x_NothingToUndo.g⟩ (fun a oe cls d pn hz hf => pss_one (ps_set (i := 2) sc__law_back.nd rfl (Or.inl rfl) (pe_lst (pa_cons pe_str pa_nil)))) (HdsG.bare ⟨by rfl, by decide, .inl x_NothingToRedo.g⟩ (fun a oe cls d pn hz hf => pss_one (ps_set (i := 2) sc__law_back.nd rfl (Or.inl rfl) (pe_lst (pa_cons pe_str pa_nil)))) HdsG.nil)))
 (pss_one (ps_ret (pv 2)))),
 (is_seq (is_try (fun W => (isw_asg (ix_lst (iax_cons (ix_pu im_str) (iax_cons (ix_if (it_test (im_op ro_eq ((im_var 1)).w (im_str).w)) (ix_methC c_Bench_undo (im_var 0) (iax_pu ia_nil) (anx_pu an_nil)) (ix_methC c_Bench_redo (im_var 0) (iax_pu ia_nil) (anx_pu an_nil))) (iax_pu ia_nil)))) (ig_name 2)))
 (HsOk.cons x_NothingToUndo.g e_NothingToUndo_NothingToUndo (hsx x_NothingToRedo.g e_NothingToRedo_NothingToUndo hsx0) (hd_bare (is_asg ((if_lst (ia_cons im_str ia_nil))).im (ig_name 2))) (HsOk.cons x_NothingToRedo.g e_NothingToRedo_NothingToRedo hsx0 (hd_bare (is_asg ((if_lst (ia_cons im_str ia_nil))).im (ig_name 2))) HsOk.nil)))
 (is_ret (im_var 2)))⟩
theorem ok_is_whole (T : Txt K mg) {f : Addr} {fd : FuncData} (Fn : Fun K "is_whole" "is_whole" s_is_whole f fd)  : FnG P WW.w K mg base 1 f fd ["value", "least", "most"] (spD K 3 m_is_whole) :=
  fnD Fn sc_is_whole (by decide) fun cdv A outer s H E hr gd => ⟨_, (pss_one (ps_ret (L2.pe_and (pe_callB call_isi (by rfl) T.n_isinstance (by decide +kernel) (pa_cons (pv 0) (pa_cons (pe_tyName (by rfl) T.n_int (by decide +kernel)) pa_nil))) (L2.pe_and (pe_not (pe_callB call_isi (by rfl) T.n_isinstance (by decide +kernel) (pa_cons (pv 0) (pa_cons (pe_tyName (by rfl) T.n_bool (by decide +kernel)) pa_nil)))) (pe_one (pe_chain op_le op_le (pv 1) (pv 0) (pv 2))))))),
 (is_ret (im_andV (im_isi "int" ((im_var 0)).w) (im_andV (im_notV (im_isi "bool" ((im_var 0)).w)) (im_chain ro_le ro_le ((im_var 1)).w ((im_var 0)).w ((im_var 2)).w))))⟩
theorem ok_cut_at (T : Txt K mg) {f : Addr} {fd : FuncData} (Fn : Fun K "cut_at" "cut_at" s_cut_at f fd) (c_is_whole : Cal P WW.w K mg base 1 "is_whole" ["value", "least", "most"] (spD K 3 m_is_whole)) {C_NoCut : Addr} (x_NoCut : XClsL P WW.w K mg base "NoCut" "index" C_NoCut) : FnX P WW.w K mg base 3 f fd ["cuts", "index"] (spX K mg 2 m_cut_at) :=
  fnDX Fn sc_cut_at (by decide) fun cdv A outer s H E hr gd => ⟨_, (pss_cons (ps_if (pt_not (pt_truth (pe_callC c_is_whole hr gd (by rfl) (pa_cons (pv 1) (pa_cons pe_int (pa_cons (pe_op op_sub (pe_callB call_lenA (by rfl) T.n_len (by decide +kernel) (pa_cons (pv 0) pa_nil)) pe_int) pa_nil)))) (by intro _; rfl)))
 (pss_one (ps_raiseL rfl x_NoCut (hr.mono (by decide)) (takes_of rfl rfl rfl rfl) (pa_cons (pv 1) pa_nil)))
 pss_nil)
 (pss_one (ps_ret (pe_sub (units1 hr.units) (pv 0) (pv 1))))),
 (isx_seq (isx_if (it_not (it_truth ((im_call (ia_cons (im_var 1) (ia_cons im_int (ia_cons (im_op ro_sub ((im_cb rc_lenA (iaw_cons ((im_var 0)).w iaw_nil))).w (im_int).w) ia_nil))) (an_cons (an_cons (an_cons an_nil))))).w))
 (isx_raise x_NoCut.g (im_var 1))
 (isx_li is_next))
 (isx_li (is_ret (im_sub ((im_var 0)).w ((im_var 1)).w))))⟩
theorem ok_Bench___getitem__ (T : Txt K mg) {f : Addr} {fd : FuncData} (Fn : Fun K "__getitem__" "Bench.__getitem__" s_Bench___getitem__ f fd) (c_cut_at : CalX P WW.w K mg base 3 "cut_at" ["cuts", "index"] (spX K mg 2 m_cut_at)) : FnX P WW.w K mg base 4 f fd ["self", "index"] (spX K mg 2 m_Bench___getitem__) :=
  fnDX Fn sc_Bench___getitem__ (by decide) fun cdv A outer s H E hr gd => ⟨_, (pss_one (ps_ret (pe_callXC c_cut_at hr gd (by rfl) (fun σ => passAt (takes_of rfl rfl rfl rfl) σ) (pa_cons (pe_fld (pv 0) rfl) (pa_cons (pv 1) pa_nil))))),
 (isx_ret (ix_call (iax_pu (ia_cons (im_fld (cs1 T.cl_Bench) (by decide) (im_var 0)) (ia_cons (im_var 1) ia_nil))) (anx_pu (an_cons (an_cons an_nil)))))⟩
theorem ok__law_got (T : Txt K mg) {f : Addr} {fd : FuncData} (Fn : Fun K "_law_got" "_law_got" s__law_got f fd) (c_Bench___getitem__ : CalOX P WW.w K mg base 4 "Bench" "__getitem__" ["self", "index"] (spX K mg 2 m_Bench___getitem__)) {C_NoCut : Addr} (x_NoCut : XClsL P WW.w K mg base "NoCut" "index" C_NoCut) (e_NoCut_NoCut : PySem.W.exmOne K (.ref C_NoCut) (.ref C_NoCut) = some true) : FnG P WW.w K mg base 6 f fd ["_law_bench", "_law_index_here"] (spD K 2 m__law_got) :=
  fnD Fn sc__law_got (by decide) fun cdv A outer s H E hr gd => ⟨_, (pss_cons (ps_tryG rfl rfl sc__law_got.nd (fun W pn xe tk _ =>
 (pss_one (ps_set (i := 2) sc__law_got.nd rfl (Or.inl rfl) (pe_lst (pa_cons pe_str (pa_cons (pe_getOC c_Bench___getitem__ hr gd (fun σ => passAt tk σ) (pv 0) (pv 1)) pa_nil)))))) (HdsG.cons ⟨by rfl, by decide, .inl x_NoCut.g⟩ rfl rfl (fun a oe cls d pn hz hf => pss_one (ps_set (i := 2) sc__law_got.nd rfl (Or.inl rfl) (pe_lst (pa_cons pe_str (pa_cons (pe_byL x_NoCut hz hf (pv 3)) pa_nil))))) HdsG.nil))
 (pss_one (ps_ret (pv 2)))),
 (is_seq (is_try (fun W => (isw_asg (ix_lst (iax_cons (ix_pu im_str) (iax_cons (ix_getOC c_Bench___getitem__ (im_var 0) (im_var 1)) (iax_pu ia_nil)))) (ig_name 2)))
 (HsOk.cons x_NoCut.g e_NoCut_NoCut hsx0 (hd_asL (items := [some "NoCut", none])) HsOk.nil))
 (is_ret (im_var 2)))⟩
theorem ok__law_is_cut (T : Txt K mg) {f : Addr} {fd : FuncData} (Fn : Fun K "_law_is_cut" "_law_is_cut" s__law_is_cut f fd) (c__law_is_number : Cal P WW.w K mg base 1 "_law_is_number" ["_law_value", "_law_least", "_law_most"] (spD K 3 m__law_is_number)) : FnG P WW.w K mg base 2 f fd ["_law_letters", "_law_units_here", "_law_value"] (spD K 3 m__law_is_cut) :=
  fnD Fn sc__law_is_cut (by decide) fun cdv A outer s H E hr gd => ⟨_, (pss_cons (ps_if (PW.pt (pw_or (pt_not (pt_truth (pe_callB call_isi (by rfl) T.n_isinstance (by decide +kernel) (pa_cons (pv 2) (pa_cons (pe_tyName (by rfl) T.n_tuple (by decide +kernel)) pa_nil))) (by intro _; rfl))) (pw_or (pt_cmpR (op_neA hr.units) (pe_callB call_lenA (by rfl) T.n_len (by decide +kernel) (pa_cons (pv 2) pa_nil)) pe_int (nomark _)) (pw_or1 (pt_not (pt_truth (pe_callB call_isi (by rfl) T.n_isinstance (by decide +kernel) (pa_cons (pe_sub (units1 hr.units) (pv 2) pe_int) (pa_cons (pe_tyName (by rfl) T.n_str (by decide +kernel)) pa_nil))) (by intro _; rfl)))))))
 (pss_one (ps_ret pe_bl))
 pss_nil)
 (pss_cons (ps_if (PW.pt (pw_or (pt_not (pt_truth (pe_callC c__law_is_number hr gd (by rfl) (pa_cons (pe_sub (units1 hr.units) (pv 2) pe_int) (pa_cons pe_int (pa_cons (pe_op op_sub (pe_callB call_lenA (by rfl) T.n_len (by decide +kernel) (pa_cons (pv 1) pa_nil)) pe_int) pa_nil)))) (by intro _; rfl))) (pw_or1 (pt_not (pt_truth (pe_callC c__law_is_number hr gd (by rfl) (pa_cons (pe_sub (units1 hr.units) (pv 2) pe_int) (pa_cons pe_int (pa_cons pe_int pa_nil)))) (by intro _; rfl))))))
 (pss_one (ps_ret pe_bl))
 pss_nil)
 (pss_one (ps_ret (pe_cmpR (op_eqA hr.units) (pe_sub (units1 hr.units) (pv 2) pe_int) (pe_join pe_str (pe_lc (own := [("_law_letter", 3)]) (g := (gName 3)) rfl sc__law_is_cut.nd (pi_seq (pe_slice sl_any pe_str po_none (po_some (pv 0)))) (blkOk_by (own := [("_law_letter", 3)]) (N := ["_law_letters", "_law_units_here", "_law_value", "_law_letter"]) (sc := defScope s__law_is_cut) (by decide +kernel)) (fun _ _ _ _ _ => (pg_name (i := 3) sc__law_is_cut.nd rfl (Or.inl rfl))) (fun _ _ _ _ _ => (pts_one (pt_in (units1 hr.units) (pv 3) (pe_sub (units1 hr.units) (pv 2) pe_int)))) (fun _ _ _ _ _ => (pv 3)))) (nomark _)))))),
 (is_seq (is_if (it_or (it_not (it_truth ((im_isi "tuple" ((im_var 2)).w)).w)) (it_or (it_test (im_op ro_ne ((im_cb rc_lenA (iaw_cons ((im_var 2)).w iaw_nil))).w (im_int).w)) (it_not (it_truth ((im_isi "str" ((im_sub ((im_var 2)).w (im_int).w)).w)).w))))
 (is_ret im_bl)
 is_next)
 (is_seq (is_if (it_or (it_not (it_truth ((im_call (ia_cons (im_sub ((im_var 2)).w (im_int).w) (ia_cons im_int (ia_cons (im_op ro_sub ((im_cb rc_lenA (iaw_cons ((im_var 1)).w iaw_nil))).w (im_int).w) ia_nil))) (an_cons (an_cons (an_cons an_nil))))).w)) (it_not (it_truth ((im_call (ia_cons (im_sub ((im_var 2)).w (im_int).w) (ia_cons im_int (ia_cons im_int ia_nil))) (an_cons (an_cons (an_cons an_nil))))).w)))
 (is_ret im_bl)
 is_next)
 (is_ret (im_op ro_eq ((im_sub ((im_var 2)).w (im_int).w)).w ((im_m1 rm_join (im_str).w ((if_comp (vs := [3]) (ii_seq (im_sl rs_any (im_str).w io_none (io_some ((im_var 0)).w))) (ig_name 3) (it_test (im_in ((im_var 3)).w ((im_sub ((im_var 2)).w (im_int).w)).w)) (im_var 3) (by decide))).w)).w))))⟩
theorem ok__law_cuts_error (T : Txt K mg) {f : Addr} {fd : FuncData} (Fn : Fun K "_law_cuts_error" "_law_cuts_error" s__law_cuts_error f fd) (c__law_is_cut : Cal P WW.w K mg base 2 "_law_is_cut" ["_law_letters", "_law_units_here", "_law_value"] (spD K 3 m__law_is_cut)) : FnG P WW.w K mg base 3 f fd ["_law_letters", "_law_units_here", "_law_value"] (spD K 3 m__law_cuts_error) :=
  fnD Fn sc__law_cuts_error (by decide) fun cdv A outer s H E hr gd => ⟨_, (pss_cons (ps_if (pt_not (pt_truth (pe_callB call_isi (by rfl) T.n_isinstance (by decide +kernel) (pa_cons (pv 2) (pa_cons (pe_tyName (by rfl) T.n_tuple (by decide +kernel)) pa_nil))) (by intro _; rfl)))
 (pss_one (ps_ret (pe_tup (pa_cons pe_non (pa_cons pe_str pa_nil)))))
 pss_nil)
 (pss_cons (ps_for PassesOwn.never rfl (pi_range1 (by rfl) T.n_range (pa_cons (pe_callB call_lenA (by rfl) T.n_len (by decide +kernel) (pa_cons (pv 2) pa_nil)) pa_nil)) (pg_name (i := 3) sc__law_cuts_error.nd rfl (Or.inl rfl))
 (pss_one (ps_if (pt_not (pt_truth (pe_callC c__law_is_cut hr gd (by rfl) (pa_cons (pv 0) (pa_cons (pv 1) (pa_cons (pe_sub (units1 hr.units) (pv 2) (pv 3)) pa_nil)))) (by intro _; rfl)))
 (pss_one (ps_ret (pe_tup (pa_cons (pv 3) (pa_cons pe_str pa_nil)))))
 pss_nil)))
 (pss_one (ps_ret (pe_ifExp (pt_cmpR op_gt (pe_callB call_lenA (by rfl) T.n_len (by decide +kernel) (pa_cons (pv 2) pa_nil)) pe_int (nomark _)) (pe_tup (pa_cons pe_non (pa_cons pe_str pa_nil))) pe_non))))),
 (is_seq (is_if (it_not (it_truth ((im_isi "tuple" ((im_var 2)).w)).w))
 (is_ret (im_tup (ia_cons im_non (ia_cons im_str ia_nil))))
 is_next)
 (is_seq (is_for (ii_range1 (iaw_cons ((im_cb rc_lenA (iaw_cons ((im_var 2)).w iaw_nil))).w iaw_nil)) (ig_name 3)
 (is_if (it_not (it_truth ((im_call (ia_cons (im_var 0) (ia_cons (im_var 1) (ia_cons (im_sub ((im_var 2)).w ((im_var 3)).w) ia_nil))) (an_cons (an_cons (an_cons an_nil))))).w))
 (is_ret (im_tup (ia_cons (im_var 3) (ia_cons im_str ia_nil))))
 is_next))
 (is_ret (im_if (it_test (im_op ro_gt ((im_cb rc_lenA (iaw_cons ((im_var 2)).w iaw_nil))).w (im_int).w)) (im_tup (ia_cons im_non (ia_cons im_str ia_nil))) im_non))))⟩
theorem ok__law_due (T : Txt K mg) {f : Addr} {fd : FuncData} (Fn : Fun K "_law_due" "_law_due" s__law_due f fd) (c__law_is_number : Cal P WW.w K mg base 1 "_law_is_number" ["_law_value", "_law_least", "_law_most"] (spD K 3 m__law_is_number)) (c__law_cuts_error : Cal P WW.w K mg base 3 "_law_cuts_error" ["_law_letters", "_law_units_here", "_law_value"] (spD K 3 m__law_cuts_error)) : FnG P WW.w K mg base 4 f fd ["_law_shape", "_law_cuts", "_law_edit_here"] (spD K 3 m__law_due) :=
  fnD Fn sc__law_due (by decide) fun cdv A outer s H E hr gd => ⟨_, (pss_cons (ps_asg (pe_slice sl_any (pv 2) po_none (po_some pe_int)) (pg_tup rfl (pgs_cons (pg_name (i := 3) sc__law_due.nd rfl (Or.inl rfl)) (pgs_cons (pg_name (i := 4) sc__law_due.nd rfl (Or.inl rfl)) pgs_nil))))
 (pss_cons (ps_set (i := 5) sc__law_due.nd rfl (Or.inl rfl) (pe_op op_addA (pv 1) (pe_slice sl_any (pv 2) (po_some pe_int) po_none)))
 (pss_cons (ps_if (pt_cmpR (op_neA hr.units) (pv 3) pe_str (nomark _))
 (pss_cons (ps_if (pt_not (pt_truth (pe_callC c__law_is_number hr gd (by rfl) (pa_cons (pv 4) (pa_cons pe_int (pa_cons (pe_op op_sub (pe_callB call_lenA (by rfl) T.n_len (by decide +kernel) (pa_cons (pv 1) pa_nil)) pe_int) pa_nil)))) (by intro _; rfl)))
 (pss_one (ps_ret (pe_lst (pa_cons pe_str (pa_cons (pv 4) pa_nil)))))
 pss_nil)
 (pss_one (ps_set (i := 5) sc__law_due.nd rfl (Or.inl rfl) (pe_op op_addA (pe_op op_addA (pe_slice sl_any (pv 1) po_none (po_some (pv 4))) (pe_slice sl_any (pv 2) (po_some pe_int) po_none)) (pe_slice sl_any (pv 1) (po_some (pe_op op_addA (pv 4) pe_int)) po_none)))))
 pss_nil)
 (pss_cons (ps_if (pt_cmpR (op_eqA hr.units) (pv 3) pe_str (nomark _))
 (pss_cons (ps_set (i := 5) sc__law_due.nd rfl (Or.inl rfl) (pv 1))
 (pss_one (ps_if (pt_cmpR op_gt (pv 4) pe_int (nomark _))
 (pss_one (ps_set (i := 5) sc__law_due.nd rfl (Or.inl rfl) (pe_op op_addA (pe_op op_addA (pe_slice sl_any (pv 1) po_none (po_some (pe_op op_sub (pv 4) pe_int))) (pe_tup (pa_cons (pe_sub (units1 hr.units) (pv 1) (pv 4)) (pa_cons (pe_sub (units1 hr.units) (pv 1) (pe_op op_sub (pv 4) pe_int)) pa_nil)))) (pe_slice sl_any (pv 1) (po_some (pe_op op_addA (pv 4) pe_int)) po_none))))
 pss_nil)))
 pss_nil)
 (pss_cons (ps_if (pt_cmpR (op_eqA hr.units) (pv 3) pe_str (nomark _))
 (pss_one (ps_set (i := 5) sc__law_due.nd rfl (Or.inl rfl) (pe_op op_addA (pe_op op_addA (pe_slice sl_any (pv 1) po_none (po_some (pv 4))) (pe_tup (pa_cons (pe_tup (pa_cons (pe_sub (units1 hr.units) (pe_sub (units1 hr.units) (pv 1) (pv 4)) pe_int) (pa_cons (pe_sub (units1 hr.units) (pv 2) pe_int) (pa_cons (pe_sub (units1 hr.units) (pe_sub (units1 hr.units) (pv 1) (pv 4)) pe_int) pa_nil)))) pa_nil))) (pe_slice sl_any (pv 1) (po_some (pe_op op_addA (pv 4) pe_int)) po_none))))
 pss_nil)
 (pss_cons (ps_set (i := 6) sc__law_due.nd rfl (Or.inl rfl) (pe_callC c__law_cuts_error hr gd (by rfl) (pa_cons (pe_sub (units1 hr.units) (pv 0) pe_int) (pa_cons (pe_sub (units1 hr.units) (pv 0) pe_int) (pa_cons (pv 5) pa_nil)))))
 (pss_one (ps_ret (pe_ifExp (pt_cmpR op_isN (pv 6) pe_non (nomark _)) (pe_lst (pa_cons pe_str (pa_cons (pv 5) pa_nil))) (pe_lst (pa_cons pe_str (pa_cons (pv 6) pa_nil)))))))))))),
 (is_seq (is_asg (im_sl rs_any ((im_var 2)).w io_none (io_some (im_int).w)) (ig_tup (igs_cons (ig_name 3) (igs_cons (ig_name 4) igs_nil))))
 (is_seq (is_asg (im_op ro_addA ((im_var 1)).w ((im_sl rs_any ((im_var 2)).w (io_some (im_int).w) io_none)).w) (ig_name 5))
 (is_seq (is_if (it_test (im_op ro_ne ((im_var 3)).w (im_str).w))
 (is_seq (is_if (it_not (it_truth ((im_call (ia_cons (im_var 4) (ia_cons im_int (ia_cons (im_op ro_sub ((im_cb rc_lenA (iaw_cons ((im_var 1)).w iaw_nil))).w (im_int).w) ia_nil))) (an_cons (an_cons (an_cons an_nil))))).w))
 (is_ret ((if_lst (ia_cons im_str (ia_cons (im_var 4) ia_nil)))).im)
 is_next)
 (is_asg (im_op ro_addA ((im_op ro_addA ((im_sl rs_any ((im_var 1)).w io_none (io_some ((im_var 4)).w))).w ((im_sl rs_any ((im_var 2)).w (io_some (im_int).w) io_none)).w)).w ((im_sl rs_any ((im_var 1)).w (io_some ((im_op ro_addA ((im_var 4)).w (im_int).w)).w) io_none)).w) (ig_name 5)))
 is_next)
 (is_seq (is_if (it_test (im_op ro_eq ((im_var 3)).w (im_str).w))
 (is_seq (is_asg (im_var 1) (ig_name 5))
 (is_if (it_test (im_op ro_gt ((im_var 4)).w (im_int).w))
 (is_asg (im_op ro_addA ((im_op ro_addA ((im_sl rs_any ((im_var 1)).w io_none (io_some ((im_op ro_sub ((im_var 4)).w (im_int).w)).w))).w ((im_tup (ia_cons (im_sub ((im_var 1)).w ((im_var 4)).w) (ia_cons (im_sub ((im_var 1)).w ((im_op ro_sub ((im_var 4)).w (im_int).w)).w) ia_nil)))).w)).w ((im_sl rs_any ((im_var 1)).w (io_some ((im_op ro_addA ((im_var 4)).w (im_int).w)).w) io_none)).w) (ig_name 5))
 is_next))
 is_next)
 (is_seq (is_if (it_test (im_op ro_eq ((im_var 3)).w (im_str).w))
 (is_asg (im_op ro_addA ((im_op ro_addA ((im_sl rs_any ((im_var 1)).w io_none (io_some ((im_var 4)).w))).w ((im_tup (ia_cons (im_tup (ia_cons (im_sub ((im_sub ((im_var 1)).w ((im_var 4)).w)).w (im_int).w) (ia_cons (im_sub ((im_var 2)).w (im_int).w) (ia_cons (im_sub ((im_sub ((im_var 1)).w ((im_var 4)).w)).w (im_int).w) ia_nil)))) ia_nil))).w)).w ((im_sl rs_any ((im_var 1)).w (io_some ((im_op ro_addA ((im_var 4)).w (im_int).w)).w) io_none)).w) (ig_name 5))
 is_next)
 (is_seq (is_asg (im_call (ia_cons (im_sub ((im_var 0)).w (im_int).w) (ia_cons (im_sub ((im_var 0)).w (im_int).w) (ia_cons (im_var 5) ia_nil))) (an_cons (an_cons (an_cons an_nil)))) (ig_name 6))
 (is_ret (im_if (it_test (im_op ro_is ((im_var 6)).w (im_non).w)) ((if_lst (ia_cons im_str (ia_cons (im_var 5) ia_nil)))).im ((if_lst (ia_cons im_str (ia_cons (im_var 6) ia_nil)))).im))))))))⟩
theorem ok_Bench_ready (T : Txt K mg) {f : Addr} {fd : FuncData} (Fn : Fun K "ready" "Bench.ready" s_Bench_ready f fd) (c_Bench_idle : CalM P WW.w K mg base 1 "Bench" "idle" ["self"] (spD K 1 m_Bench_idle)) : FnG P WW.w K mg base 2 f fd ["self"] (spD K 1 m_Bench_ready) :=
  fnD Fn sc_Bench_ready (by decide) fun cdv A outer s H E hr gd => ⟨_, (pss_cons (ps_expr (pe_methC0 c_Bench_idle hr gd (pv 0)))
 (pss_one (ps_if (pt_cmpR op_ge (pe_callB call_lenA (by rfl) T.n_len (by decide +kernel) (pa_cons (pe_fld (pv 0) rfl) pa_nil)) (pe_gint (by rfl) T.c_MAX_EDITS) (nomark _))
 (pss_one ps_stuck)
 pss_nil))),
 (is_seq (is_drop (im_methC c_Bench_idle (im_var 0) ia_nil an_nil))
 (is_if (it_test (im_op ro_ge ((im_cb rc_lenA (iaw_cons ((im_fld (cs1 T.cl_Bench) (by decide) (im_var 0))).w iaw_nil))).w (im_int).w))
 is_stuck
 is_next))⟩
theorem ok_Bench_judge (T : Txt K mg) {f : Addr} {fd : FuncData} (Fn : Fun K "judge" "Bench.judge" s_Bench_judge f fd)  : FnG P WW.w K mg base 1 f fd ["self", "cuts"] (spD K 2 m_Bench_judge) :=
  fnD Fn sc_Bench_judge (by decide) fun cdv A outer s H E hr gd => ⟨_, (pss_one (ps_ret pe_non)),
 (is_ret im_non)⟩
theorem ok_Bench_settle (T : Txt K mg) {f : Addr} {fd : FuncData} (Fn : Fun K "settle" "Bench.settle" s_Bench_settle f fd) (c_Bench_judge : CalM P WW.w K mg base 1 "Bench" "judge" ["self", "cuts"] (spD K 2 m_Bench_judge)) (c_Bench_stand : CalM P WW.w K mg base 1 "Bench" "stand" ["self", "standing"] (spD K 2 m_Bench_stand)) : FnG P WW.w K mg base 2 f fd ["self", "edit", "cuts"] (spD K 3 m_Bench_settle) :=
  fnD Fn sc_Bench_settle (by decide) fun cdv A outer s H E hr gd => ⟨_, (pss_cons (ps_expr (pe_methC c_Bench_judge hr gd (pv 0) (pa_cons (pv 2) pa_nil)))
 (pss_cons (ps_fld (pv 0) (pe_lst pa_nil) rfl)
 (pss_one (ps_ret (pe_methC c_Bench_stand hr gd (pv 0) (pa_cons (pe_op op_addA (pe_fld (pv 0) rfl) (pe_lst (pa_cons (pe_tup (pa_cons (pv 1) (pa_cons (pv 2) pa_nil))) pa_nil))) pa_nil)))))),
 (is_seq (is_drop (im_methC c_Bench_judge (im_var 0) (ia_cons (im_var 2) ia_nil) (an_cons an_nil)))
 (is_seq (is_setf (cs1 T.cl_Bench) (by decide) (im_var 0) ((if_lst ia_nil)).im)
 (is_ret (im_methC c_Bench_stand (im_var 0) (ia_cons (im_op ro_addA ((im_fld (cs1 T.cl_Bench) (by decide) (im_var 0))).w ((if_lst (ia_cons (im_tup (ia_cons (im_var 1) (ia_cons (im_var 2) ia_nil))) ia_nil))).w) ia_nil) (an_cons an_nil)))))⟩
theorem ok_need_cuts (T : Txt K mg) {f : Addr} {fd : FuncData} (Fn : Fun K "need_cuts" "need_cuts" s_need_cuts f fd) (c_cuts_error : Cal P WW.w K mg base 4 "cuts_error" ["letters", "units", "value"] (spD K 3 m_cuts_error)) {C_BadCuts : Addr} (x_BadCuts : XCls P WW.w K mg base "BadCuts" "error" C_BadCuts) : FnX P WW.w K mg base 5 f fd ["letters", "units", "value"] (spX K mg 3 m_need_cuts) :=
  fnDX Fn sc_need_cuts (by decide) fun cdv A outer s H E hr gd => ⟨_, (pss_cons (ps_set (i := 3) sc_need_cuts.nd rfl (Or.inl rfl) (pe_callC c_cuts_error hr gd (by rfl) (pa_cons (pv 0) (pa_cons (pv 1) (pa_cons (pv 2) pa_nil)))))
 (pss_cons (ps_if (pt_cmpR op_notN (pv 3) pe_non (nomark _))
 (pss_one (ps_raiseX rfl x_BadCuts (hr.mono (by decide)) (takes_of rfl rfl rfl rfl) (pa_cons (pv 3) pa_nil)))
 pss_nil)
 (pss_one (ps_ret (pv 2))))),
 (isx_seq (isx_li (is_asg (im_call (ia_cons (im_var 0) (ia_cons (im_var 1) (ia_cons (im_var 2) ia_nil))) (an_cons (an_cons (an_cons an_nil)))) (ig_name 3)))
 (isx_seq (isx_if (it_test (im_op ro_isNot ((im_var 3)).w (im_non).w))
 (isx_raise x_BadCuts.g (im_var 3))
 (isx_li is_next))
 (isx_li (is_ret (im_var 2)))))⟩
theorem ok_lifted (T : Txt K mg) {f : Addr} {fd : FuncData} (Fn : Fun K "lifted" "lifted" s_lifted f fd)  : FnG P WW.w K mg base 1 f fd ["cuts", "index"] (spD K 2 m_lifted) :=
  fnD Fn sc_lifted (by decide) fun cdv A outer s H E hr gd => ⟨_, (pss_cons (ps_if (pt_cmpR (op_eqA hr.units) (pv 1) pe_int (nomark _))
 (pss_one (ps_ret (pv 0)))
 pss_nil)
 (pss_one (ps_ret (pe_op op_addA (pe_op op_addA (pe_slice sl_any (pv 0) po_none (po_some (pe_op op_sub (pv 1) pe_int))) (pe_tup (pa_cons (pe_sub (units1 hr.units) (pv 0) (pv 1)) (pa_cons (pe_sub (units1 hr.units) (pv 0) (pe_op op_sub (pv 1) pe_int)) pa_nil)))) (pe_slice sl_any (pv 0) (po_some (pe_op op_addA (pv 1) pe_int)) po_none))))),
 (is_seq (is_if (it_test (im_op ro_eq ((im_var 1)).w (im_int).w))
 (is_ret (im_var 0))
 is_next)
 (is_ret (im_op ro_addA ((im_op ro_addA ((im_sl rs_any ((im_var 0)).w io_none (io_some ((im_op ro_sub ((im_var 1)).w (im_int).w)).w))).w ((im_tup (ia_cons (im_sub ((im_var 0)).w ((im_var 1)).w) (ia_cons (im_sub ((im_var 0)).w ((im_op ro_sub ((im_var 1)).w (im_int).w)).w) ia_nil)))).w)).w ((im_sl rs_any ((im_var 0)).w (io_some ((im_op ro_addA ((im_var 1)).w (im_int).w)).w) io_none)).w)))⟩
theorem ok_edited (T : Txt K mg) {f : Addr} {fd : FuncData} (Fn : Fun K "edited" "edited" s_edited f fd) (c_need_cuts : CalX P WW.w K mg base 5 "need_cuts" ["letters", "units", "value"] (spX K mg 3 m_need_cuts)) (c_cut_at : CalX P WW.w K mg base 3 "cut_at" ["cuts", "index"] (spX K mg 2 m_cut_at)) (c_lifted : Cal P WW.w K mg base 1 "lifted" ["cuts", "index"] (spD K 2 m_lifted)) : FnX P WW.w K mg base 6 f fd ["letters", "units", "cuts", "edit"] (spX K mg 4 m_edited) :=
  fnDX Fn sc_edited (by decide) fun cdv A outer s H E hr gd => ⟨_, (pss_cons (ps_asg (pe_slice sl_any (pv 3) po_none (po_some pe_int)) (pg_tup rfl (pgs_cons (pg_name (i := 4) sc_edited.nd rfl (Or.inl rfl)) (pgs_cons (pg_name (i := 5) sc_edited.nd rfl (Or.inl rfl)) pgs_nil))))
 (pss_cons (ps_if (pt_cmpR (op_eqA hr.units) (pv 4) pe_str (nomark _))
 (pss_one (ps_ret (pe_callXC c_need_cuts hr gd (by rfl) (fun σ => passAt (takes_of rfl rfl rfl rfl) σ) (pa_cons (pv 0) (pa_cons (pv 1) (pa_cons (pe_op op_addA (pv 2) (pe_tup (pa_cons (pv 5) pa_nil))) pa_nil))))))
 pss_nil)
 (pss_cons (ps_set (i := 6) sc_edited.nd rfl (Or.inl rfl) (pe_callXC c_cut_at hr gd (by rfl) (fun σ => passAt (takes_of rfl rfl rfl rfl) σ) (pa_cons (pv 2) (pa_cons (pv 5) pa_nil))))
 (pss_cons (ps_if (pt_cmpR (op_eqA hr.units) (pv 4) pe_str (nomark _))
 (pss_one (ps_ret (pe_op op_addA (pe_slice sl_any (pv 2) po_none (po_some (pv 5))) (pe_slice sl_any (pv 2) (po_some (pe_op op_addA (pv 5) pe_int)) po_none))))
 pss_nil)
 (pss_cons (ps_if (pt_cmpR (op_eqA hr.units) (pv 4) pe_str (nomark _))
 (pss_one (ps_ret (pe_callC c_lifted hr gd (by rfl) (pa_cons (pv 2) (pa_cons (pv 5) pa_nil)))))
 pss_nil)
 (pss_cons (ps_set (i := 7) sc_edited.nd rfl (Or.inl rfl) (pe_ifExp (pt_cmpR (op_eqA hr.units) (pv 4) pe_str (nomark _)) (pe_sub (units1 hr.units) (pv 3) pe_int) (pe_tup (pa_cons (pe_sub (units1 hr.units) (pv 6) pe_int) (pa_cons (pe_sub (units1 hr.units) (pv 3) pe_int) (pa_cons (pe_sub (units1 hr.units) (pv 6) pe_int) pa_nil))))))
 (pss_one (ps_ret (pe_callXC c_need_cuts hr gd (by rfl) (fun σ => passAt (takes_of rfl rfl rfl rfl) σ) (pa_cons (pv 0) (pa_cons (pv 1) (pa_cons (pe_op op_addA (pe_op op_addA (pe_slice sl_any (pv 2) po_none (po_some (pv 5))) (pe_tup (pa_cons (pv 7) pa_nil))) (pe_slice sl_any (pv 2) (po_some (pe_op op_addA (pv 5) pe_int)) po_none)) pa_nil)))))))))))),
 (isx_seq (isx_li (is_asg (im_sl rs_any ((im_var 3)).w io_none (io_some (im_int).w)) (ig_tup (igs_cons (ig_name 4) (igs_cons (ig_name 5) igs_nil)))))
 (isx_seq (isx_if (it_test (im_op ro_eq ((im_var 4)).w (im_str).w))
 (isx_ret (ix_call (iax_pu (ia_cons (im_var 0) (ia_cons (im_var 1) (ia_cons (im_op ro_addA ((im_var 2)).w ((im_tup (ia_cons (im_var 5) ia_nil))).w) ia_nil)))) (anx_pu (an_cons (an_cons (an_cons an_nil))))))
 (isx_li is_next))
 (isx_seq (isx_asg (ix_call (iax_pu (ia_cons (im_var 2) (ia_cons (im_var 5) ia_nil))) (anx_pu (an_cons (an_cons an_nil)))) (ig_name 6))
 (isx_seq (isx_if (it_test (im_op ro_eq ((im_var 4)).w (im_str).w))
 (isx_li (is_ret (im_op ro_addA ((im_sl rs_any ((im_var 2)).w io_none (io_some ((im_var 5)).w))).w ((im_sl rs_any ((im_var 2)).w (io_some ((im_op ro_addA ((im_var 5)).w (im_int).w)).w) io_none)).w)))
 (isx_li is_next))
 (isx_seq (isx_if (it_test (im_op ro_eq ((im_var 4)).w (im_str).w))
 (isx_li (is_ret (im_call (ia_cons (im_var 2) (ia_cons (im_var 5) ia_nil)) (an_cons (an_cons an_nil)))))
 (isx_li is_next))
 (isx_seq (isx_li (is_asg (im_if (it_test (im_op ro_eq ((im_var 4)).w (im_str).w)) (im_sub ((im_var 3)).w (im_int).w) (im_tup (ia_cons (im_sub ((im_var 6)).w (im_int).w) (ia_cons (im_sub ((im_var 3)).w (im_int).w) (ia_cons (im_sub ((im_var 6)).w (im_int).w) ia_nil))))) (ig_name 7)))
 (isx_ret (ix_call (iax_pu (ia_cons (im_var 0) (ia_cons (im_var 1) (ia_cons (im_op ro_addA ((im_op ro_addA ((im_sl rs_any ((im_var 2)).w io_none (io_some ((im_var 5)).w))).w ((im_tup (ia_cons (im_var 7) ia_nil))).w)).w ((im_sl rs_any ((im_var 2)).w (io_some ((im_op ro_addA ((im_var 5)).w (im_int).w)).w) io_none)).w) ia_nil)))) (anx_pu (an_cons (an_cons (an_cons an_nil))))))))))))⟩
theorem ok_Bench_do (T : Txt K mg) {f : Addr} {fd : FuncData} (Fn : Fun K "do" "Bench.do" s_Bench_do f fd) (c_Bench_ready : CalM P WW.w K mg base 2 "Bench" "ready" ["self"] (spD K 1 m_Bench_ready)) (c_edited : CalX P WW.w K mg base 6 "edited" ["letters", "units", "cuts", "edit"] (spX K mg 4 m_edited)) (c_Bench_settle : CalM P WW.w K mg base 2 "Bench" "settle" ["self", "edit", "cuts"] (spD K 3 m_Bench_settle)) : FnX P WW.w K mg base 7 f fd ["self", "edit"] (spX K mg 2 m_Bench_do) :=
  fnDX Fn sc_Bench_do (by decide) fun cdv A outer s H E hr gd => ⟨_, (pss_cons (ps_expr (pe_methC0 c_Bench_ready hr gd (pv 0)))
 (pss_one (ps_ret (pe_methC c_Bench_settle hr gd (pv 0) (pa_cons (pv 1) (pa_cons (pe_callXC c_edited hr gd (by rfl) (fun σ => passAt (takes_of rfl rfl rfl rfl) σ) (pa_cons (pe_sub (units1 hr.units) (pe_fld (pv 0) rfl) pe_int) (pa_cons (pe_fld (pv 0) rfl) (pa_cons (pe_fld (pv 0) rfl) (pa_cons (pv 1) pa_nil))))) pa_nil)))))),
 (isx_seq (isx_li (is_drop (im_methC c_Bench_ready (im_var 0) ia_nil an_nil)))
 (isx_ret (ix_methDC c_Bench_settle (im_var 0) (iax_cons (ix_pu (im_var 1)) (iax_cons (ix_call (iax_pu (ia_cons (im_sub ((im_fld (cs1 T.cl_Bench) (by decide) (im_var 0))).w (im_int).w) (ia_cons (im_fld (cs1 T.cl_Bench) (by decide) (im_var 0)) (ia_cons (im_fld (cs1 T.cl_Bench) (by decide) (im_var 0)) (ia_cons (im_var 1) ia_nil))))) (anx_pu (an_cons (an_cons (an_cons (an_cons an_nil)))))) (iax_pu ia_nil))) (anx_cons (anx_cons (anx_pu an_nil))))))⟩
theorem ok_Bench_add (T : Txt K mg) {f : Addr} {fd : FuncData} (Fn : Fun K "add" "Bench.add" s_Bench_add f fd) (c_Bench_do : CalMX P WW.w K mg base 7 "Bench" "do" ["self", "edit"] (spX K mg 2 m_Bench_do)) : FnX P WW.w K mg base 8 f fd ["self", "cut"] (spX K mg 2 m_Bench_add) :=
  fnDX Fn sc_Bench_add (by decide) fun cdv A outer s H E hr gd => ⟨_, (pss_one (ps_ret (pe_methXC c_Bench_do hr gd (fun σ => passAt (takes_of rfl rfl rfl rfl) σ) (pv 0) (pa_cons (pe_tup (pa_cons pe_str (pa_cons (pv 1) pa_nil))) pa_nil)))),
 (isx_ret (ix_methC c_Bench_do (im_var 0) (iax_pu (ia_cons (im_tup (ia_cons im_str (ia_cons (im_var 1) ia_nil))) ia_nil)) (anx_pu (an_cons an_nil))))⟩
theorem ok_Bench___iadd__ (T : Txt K mg) {f : Addr} {fd : FuncData} (Fn : Fun K "__iadd__" "Bench.__iadd__" s_Bench___iadd__ f fd) (c_Bench_add : CalMX P WW.w K mg base 8 "Bench" "add" ["self", "cut"] (spX K mg 2 m_Bench_add)) : FnX P WW.w K mg base 9 f fd ["self", "cut"] (spX K mg 2 m_Bench___iadd__) :=
  fnDX Fn sc_Bench___iadd__ (by decide) fun cdv A outer s H E hr gd => ⟨_, (pss_cons (ps_expr (pe_methXC c_Bench_add hr gd (fun σ => passAt (takes_of rfl rfl rfl rfl) σ) (pv 0) (pa_cons (pv 1) pa_nil)))
 (pss_one (ps_ret (pv 0)))),
 (isx_seq (isx_drop (ix_methC c_Bench_add (im_var 0) (iax_pu (ia_cons (im_var 1) ia_nil)) (anx_pu (an_cons an_nil))))
 (isx_li (is_ret (im_var 0))))⟩
theorem ok_Bench_drop (T : Txt K mg) {f : Addr} {fd : FuncData} (Fn : Fun K "drop" "Bench.drop" s_Bench_drop f fd) (c_Bench_do : CalMX P WW.w K mg base 7 "Bench" "do" ["self", "edit"] (spX K mg 2 m_Bench_do)) : FnX P WW.w K mg base 8 f fd ["self", "index"] (spX K mg 2 m_Bench_drop) :=
  fnDX Fn sc_Bench_drop (by decide) fun cdv A outer s H E hr gd => ⟨_, (pss_one (ps_ret (pe_methXC c_Bench_do hr gd (fun σ => passAt (takes_of rfl rfl rfl rfl) σ) (pv 0) (pa_cons (pe_tup (pa_cons pe_str (pa_cons (pv 1) pa_nil))) pa_nil)))),
 (isx_ret (ix_methC c_Bench_do (im_var 0) (iax_pu (ia_cons (im_tup (ia_cons im_str (ia_cons (im_var 1) ia_nil))) ia_nil)) (anx_pu (an_cons an_nil))))⟩
theorem ok_Bench___isub__ (T : Txt K mg) {f : Addr} {fd : FuncData} (Fn : Fun K "__isub__" "Bench.__isub__" s_Bench___isub__ f fd) (c_Bench_drop : CalMX P WW.w K mg base 8 "Bench" "drop" ["self", "index"] (spX K mg 2 m_Bench_drop)) : FnX P WW.w K mg base 9 f fd ["self", "index"] (spX K mg 2 m_Bench___isub__) :=
  fnDX Fn sc_Bench___isub__ (by decide) fun cdv A outer s H E hr gd => ⟨_, (pss_cons (ps_expr (pe_methXC c_Bench_drop hr gd (fun σ => passAt (takes_of rfl rfl rfl rfl) σ) (pv 0) (pa_cons (pv 1) pa_nil)))
 (pss_one (ps_ret (pv 0)))),
 (isx_seq (isx_drop (ix_methC c_Bench_drop (im_var 0) (iax_pu (ia_cons (im_var 1) ia_nil)) (anx_pu (an_cons an_nil))))
 (isx_li (is_ret (im_var 0))))⟩
theorem ok_Bench___len__ (T : Txt K mg) {f : Addr} {fd : FuncData} (Fn : Fun K "__len__" "Bench.__len__" s_Bench___len__ f fd)  : FnG P WW.w K mg base 1 f fd ["self"] (spD K 1 m_Bench___len__) :=
  fnD Fn sc_Bench___len__ (by decide) fun cdv A outer s H E hr gd => ⟨_, (pss_one (ps_ret (pe_callB call_lenA (by rfl) T.n_len (by decide +kernel) (pa_cons (pe_fld (pv 0) rfl) pa_nil)))),
 (is_ret (im_cb rc_lenA (iaw_cons ((im_fld (cs1 T.cl_Bench) (by decide) (im_var 0))).w iaw_nil)))⟩
theorem ok_Bench_change (T : Txt K mg) {f : Addr} {fd : FuncData} (Fn : Fun K "change" "Bench.change" s_Bench_change f fd) (c_Bench_do : CalMX P WW.w K mg base 7 "Bench" "do" ["self", "edit"] (spX K mg 2 m_Bench_do)) : FnX P WW.w K mg base 8 f fd ["self", "index", "cut"] (spX K mg 3 m_Bench_change) :=
  fnDX Fn sc_Bench_change (by decide) fun cdv A outer s H E hr gd => ⟨_, (pss_one (ps_ret (pe_methXC c_Bench_do hr gd (fun σ => passAt (takes_of rfl rfl rfl rfl) σ) (pv 0) (pa_cons (pe_tup (pa_cons pe_str (pa_cons (pv 1) (pa_cons (pv 2) pa_nil)))) pa_nil)))),
 (isx_ret (ix_methC c_Bench_do (im_var 0) (iax_pu (ia_cons (im_tup (ia_cons im_str (ia_cons (im_var 1) (ia_cons (im_var 2) ia_nil)))) ia_nil)) (anx_pu (an_cons an_nil))))⟩
theorem ok_Bench___setitem__ (T : Txt K mg) {f : Addr} {fd : FuncData} (Fn : Fun K "__setitem__" "Bench.__setitem__" s_Bench___setitem__ f fd) (c_Bench_change : CalMX P WW.w K mg base 8 "Bench" "change" ["self", "index", "cut"] (spX K mg 3 m_Bench_change)) : FnX P WW.w K mg base 9 f fd ["self", "index", "cut"] (spX K mg 3 m_Bench___setitem__) :=
  fnDX Fn sc_Bench___setitem__ (by decide) fun cdv A outer s H E hr gd => ⟨_, (pss_one (ps_expr (pe_methXC c_Bench_change hr gd (fun σ => passAt (takes_of rfl rfl rfl rfl) σ) (pv 0) (pa_cons (pv 1) (pa_cons (pv 2) pa_nil))))),
 (isx_drop (ix_methC c_Bench_change (im_var 0) (iax_pu (ia_cons (im_var 1) (ia_cons (im_var 2) ia_nil))) (anx_pu (an_cons (an_cons an_nil)))))⟩
theorem ok__law_by_item (T : Txt K mg) {f : Addr} {fd : FuncData} (Fn : Fun K "_law_by_item" "_law_by_item" s__law_by_item f fd) (c_Bench___iadd__ : CalOX P WW.w K mg base 9 "Bench" (dunderI (Operator.info .Add).2) ["self", "cut"] (spX K mg 2 m_Bench___iadd__)) (c_Bench___isub__ : CalOX P WW.w K mg base 9 "Bench" (dunderI (Operator.info .Sub).2) ["self", "index"] (spX K mg 2 m_Bench___isub__)) (c_Bench___setitem__ : CalOX P WW.w K mg base 9 "Bench" "__setitem__" ["self", "index", "cut"] (spX K mg 3 m_Bench___setitem__)) (c_Bench___len__ : CalM P WW.w K mg base 1 "Bench" "__len__" ["self"] (spD K 1 m_Bench___len__)) (c_Bench_undo : CalMX P WW.w K mg base 3 "Bench" "undo" ["self"] (spX K mg 1 m_Bench_undo)) (c_Bench_redo : CalMX P WW.w K mg base 3 "Bench" "redo" ["self"] (spX K mg 1 m_Bench_redo)) {C_NoCut : Addr} (x_NoCut : XClsL P WW.w K mg base "NoCut" "index" C_NoCut) {C_BadCuts : Addr} (x_BadCuts : XCls P WW.w K mg base "BadCuts" "error" C_BadCuts) (e_NoCut_NoCut : PySem.W.exmOne K (.ref C_NoCut) (.ref C_NoCut) = some true) (e_BadCuts_NoCut : PySem.W.exmOne K (.ref C_BadCuts) (.ref C_NoCut) = some false) (e_BadCuts_BadCuts : PySem.W.exmOne K (.ref C_BadCuts) (.ref C_BadCuts) = some true) : FnG P WW.w K mg base 10 f fd ["_law_bench", "_law_edit_here"] (spD K 2 m__law_by_item) :=
  fnD Fn sc__law_by_item (by decide) fun cdv A outer s H E hr gd => ⟨_, (pss_cons (ps_set (i := 2) sc__law_by_item.nd rfl (Or.inl rfl) (pv 0))
 (pss_cons (ps_tryG rfl rfl sc__law_by_item.nd (fun W pn xe tk _ =>
 (pss_cons (ps_if (pt_cmpR (op_eqA hr.units) (pe_sub (units1 hr.units) (pv 1) pe_int) pe_str (nomark _))
 (pss_one (ps_iopOC (n := 2) (op := .Add) c_Bench___iadd__ hr gd (fun σ => passAt tk σ) sc__law_by_item.nd (pe_sub (units1 hr.units) (pv 1) pe_int)))
 (pss_one (ps_if (pt_cmpR (op_eqA hr.units) (pe_sub (units1 hr.units) (pv 1) pe_int) pe_str (nomark _))
 (pss_one (ps_iopOC (n := 2) (op := .Sub) c_Bench___isub__ hr gd (fun σ => passAt tk σ) sc__law_by_item.nd (pe_sub (units1 hr.units) (pv 1) pe_int)))
 (pss_one (ps_asg (pe_sub (units1 hr.units) (pv 1) pe_int) (pg_setOC c_Bench___setitem__ hr gd (fun σ => passAt tk σ) (pv 2) (pe_sub (units1 hr.units) (pv 1) pe_int)))))))
 (pss_cons (ps_set (i := 3) sc__law_by_item.nd rfl (Or.inl rfl) (pe_lst (pa_cons pe_str (pa_cons (pe_callB (call_lenOC c_Bench___len__ hr gd) (by rfl) T.n_len (by decide +kernel) (pa_cons (pv 2) pa_nil)) pa_nil))))
 (pss_one (ps_if (PW.pt (pw_or (pt_cmpR (op_neA hr.units) (pe_methXC0 c_Bench_undo hr gd (fun σ => passAt tk σ) (pv 2)) (pe_callB (call_lenOC c_Bench___len__ hr gd) (by rfl) T.n_len (by decide +kernel) (pa_cons (pv 0) pa_nil)) (nomark _)) (pw_or1 (pt_cmpR (op_neA hr.units) (pe_methXC0 c_Bench_redo hr gd (fun σ => passAt tk σ) (pv 2)) (pe_callB (call_lenOC c_Bench___len__ hr gd) (by rfl) T.n_len (by decide +kernel) (pa_cons (pv 0) pa_nil)) (nomark _)))))
 (pss_one (ps_set (i := 3) sc__law_by_item.nd rfl (Or.inl rfl) (pe_lst (pa_cons pe_str pa_nil))))
 pss_nil))))) (HdsG.cons ⟨by rfl, by decide, .inl x_NoCut.g⟩ rfl rfl (fun a oe cls d pn hz hf => pss_one (ps_set (i := 3) sc__law_by_item.nd rfl (Or.inl rfl) (pe_lst (pa_cons pe_str (pa_cons (pe_byL x_NoCut hz hf (pv 4)) pa_nil))))) (HdsG.cons ⟨by rfl, by decide, .inl x_BadCuts.g⟩ rfl rfl (fun a oe cls d pn hz hf => pss_one (ps_set (i := 3) sc__law_by_item.nd rfl (Or.inl rfl) (pe_lst (pa_cons pe_str (pa_cons (pe_byX x_BadCuts hz hf (pv 4)) pa_nil))))) HdsG.nil)))
 (pss_one (ps_ret (pv 3))))),
 (is_seq (is_asg (im_var 0) (ig_name 2))
 (is_seq (is_try (fun W => (isw_seq (isw_if (it_test (im_op ro_eq ((im_sub ((im_var 1)).w (im_int).w)).w (im_str).w))
 (isw_iopC (i := 2) c_Bench___iadd__ (im_sub ((im_var 1)).w (im_int).w))
 (isw_if (it_test (im_op ro_eq ((im_sub ((im_var 1)).w (im_int).w)).w (im_str).w))
 (isw_iopC (i := 2) c_Bench___isub__ (im_sub ((im_var 1)).w (im_int).w))
 (isw_setOC c_Bench___setitem__ (im_sub ((im_var 1)).w (im_int).w) (im_var 2) (im_sub ((im_var 1)).w (im_int).w))))
 (is_seq (is_asg ((if_lst (ia_cons im_str (ia_cons (im_lenOC c_Bench___len__ (im_var 2)) ia_nil)))).im (ig_name 3))
 (is_if (it_or (it_test (im_op ro_ne ((im_noX (ix_methC c_Bench_undo (im_var 2) (iax_pu ia_nil) (anx_pu an_nil)))).w ((im_lenOC c_Bench___len__ (im_var 0))).w)) (it_test (im_op ro_ne ((im_noX (ix_methC c_Bench_redo (im_var 2) (iax_pu ia_nil) (anx_pu an_nil)))).w ((im_lenOC c_Bench___len__ (im_var 0))).w)))
 (is_asg ((if_lst (ia_cons im_str ia_nil))).im (ig_name 3))
 is_next))))
 (HsOk.cons x_NoCut.g e_NoCut_NoCut (hsx x_BadCuts.g e_BadCuts_NoCut hsx0) (hd_asL (items := [some "NoCut", none])) (HsOk.cons x_BadCuts.g e_BadCuts_BadCuts hsx0 (hd_asL (items := [some "BadCuts", none])) HsOk.nil)))
 (is_ret (im_var 3))))⟩
theorem ok_Bench_state (T : Txt K mg) {f : Addr} {fd : FuncData} (Fn : FunN K "state" "Bench.state" s_Bench_state ["version"] f fd) (c_is_whole : Cal P WW.w K mg base 1 "is_whole" ["value", "least", "most"] (spD K 3 m_is_whole)) : FnG P WW.w K mg base 2 f fd ["self", "version"] (spD K 2 m_Bench_state) :=
  fnDN Fn sc_Bench_state (by decide) fun cdv A outer s H E hr gd => ⟨_, (pss_cons (ps_if (pt_cmpR op_isN (pv 1) pe_non (nomark _))
 (pss_one (ps_ret (pe_fld (pv 0) rfl)))
 pss_nil)
 (pss_cons (ps_if (pt_not (pt_truth (pe_callC c_is_whole hr gd (by rfl) (pa_cons (pv 1) (pa_cons pe_int (pa_cons (pe_callB call_lenA (by rfl) T.n_len (by decide +kernel) (pa_cons (pe_fld (pv 0) rfl) pa_nil)) pa_nil)))) (by intro _; rfl)))
 (pss_one ps_stuck)
 pss_nil)
 (pss_one (ps_ret (pe_ifExp (pt_cmpR (op_eqA hr.units) (pv 1) pe_int (nomark _)) (pe_fld (pv 0) rfl) (pe_sub (units1 hr.units) (pe_sub (units1 hr.units) (pe_fld (pv 0) rfl) (pe_op op_sub (pv 1) pe_int)) pe_int)))))),
 (is_seq (is_if (it_test (im_op ro_is ((im_var 1)).w (im_non).w))
 (is_ret (im_fld (cs1 T.cl_Bench) (by decide) (im_var 0)))
 is_next)
 (is_seq (is_if (it_not (it_truth ((im_call (ia_cons (im_var 1) (ia_cons im_int (ia_cons (im_cb rc_lenA (iaw_cons ((im_fld (cs1 T.cl_Bench) (by decide) (im_var 0))).w iaw_nil)) ia_nil))) (an_cons (an_cons (an_cons an_nil))))).w))
 is_stuck
 is_next)
 (is_ret (im_if (it_test (im_op ro_eq ((im_var 1)).w (im_int).w)) (im_fld (cs1 T.cl_Bench) (by decide) (im_var 0)) (im_sub ((im_sub ((im_fld (cs1 T.cl_Bench) (by decide) (im_var 0))).w ((im_op ro_sub ((im_var 1)).w (im_int).w)).w)).w (im_int).w)))))⟩
theorem ok_Bench_edits (T : Txt K mg) {f : Addr} {fd : FuncData} (Fn : Fun K "edits" "Bench.edits" s_Bench_edits f fd)  : FnG P WW.w K mg base 1 f fd ["self"] (spD K 1 m_Bench_edits) :=
  fnD Fn sc_Bench_edits (by decide) fun cdv A outer s H E hr gd => ⟨_, (pss_one (ps_ret (pe_callTy (call_tupA rfl) (by rfl) T.n_tuple (by decide +kernel) (pa_cons (pe_lc (own := [("edit", 1), ("cuts", 2)]) (g := (gTup _ 2 (gCons (gName 1) (gCons (gName 2) gNil)))) rfl sc_Bench_edits.nd (pi_seq (pe_fld (pv 0) rfl)) (blkOk_by (own := [("edit", 1), ("cuts", 2)]) (N := ["self", "edit", "cuts"]) (sc := defScope s_Bench_edits) (by decide +kernel)) (fun _ _ _ _ _ => (pg_tup rfl (pgs_cons (pg_name (i := 1) sc_Bench_edits.nd rfl (Or.inl rfl)) (pgs_cons (pg_name (i := 2) sc_Bench_edits.nd rfl (Or.inl rfl)) pgs_nil)))) (fun _ _ _ _ _ => pts_nil) (fun _ _ _ _ _ => (pv 1))) pa_nil)))),
 (is_ret (im_cb rc_tupA (iaw_cons ((if_comp (vs := [1, 2]) (ii_seq (im_fld (cs1 T.cl_Bench) (by decide) (im_var 0))) (ig_tup (igs_cons (ig_name 1) (igs_cons (ig_name 2) igs_nil))) it_yes (im_var 1) (by decide))).w iaw_nil)))⟩
theorem ok_law (T : Txt K mg) {f : Addr} {fd : FuncData} (Fn : Fun K "law" "law" s_law f fd) (c__law_deck : Cal P WW.w K mg base 1 "_law_deck" ["_law_script"] (spDeck K)) (c__law_scheme : Cal P WW.w K mg base 4 "_law_scheme" ["_law_deck_here", "_law_states", "_law_most"] (spD K 3 m__law_scheme)) (c_Bench___init__ : CalK P WW.w K mg base 7 "Bench" ["self", "kind", "units", "cuts"] (spD K 4 m_Bench___init__)) (c__law_index : Cal P WW.w K mg base 3 "_law_index" ["_law_deck_here", "_law_many"] (spD K 2 m__law_index)) (c__law_is_number : Cal P WW.w K mg base 1 "_law_is_number" ["_law_value", "_law_least", "_law_most"] (spD K 3 m__law_is_number)) (c__law_got : Cal P WW.w K mg base 6 "_law_got" ["_law_bench", "_law_index_here"] (spD K 2 m__law_got)) (c__law_edit : Cal P WW.w K mg base 4 "_law_edit" ["_law_deck_here", "_law_shape", "_law_cuts"] (spD K 3 m__law_edit)) (c__law_draw : Cal P WW.w K mg base 1 "_law_draw" ["_law_deck_here", "_law_many"] (spD K 2 m__law_draw)) (c__law_backed : Cal P WW.w K mg base 1 "_law_backed" ["_law_steps", "_law_undone", "_law_way"] (spD K 3 m__law_backed)) (c__law_back : Cal P WW.w K mg base 4 "_law_back" ["_law_bench", "_law_word"] (spD K 2 m__law_back)) (c__law_due : Cal P WW.w K mg base 4 "_law_due" ["_law_shape", "_law_cuts", "_law_edit_here"] (spD K 3 m__law_due)) (c__law_by_item : Cal P WW.w K mg base 10 "_law_by_item" ["_law_bench", "_law_edit_here"] (spD K 2 m__law_by_item)) (c_Bench_state : CalMN P WW.w K mg base 2 "Bench" "state" ["self", "version"] 1 (spD K 2 m_Bench_state)) (c_Bench_edits : CalM P WW.w K mg base 1 "Bench" "edits" ["self"] (spD K 1 m_Bench_edits)) (hb : ∀ ns : List Int, ns.length ≤ 63 → ∃ s1, b_law (env0 19) ⟨ns.map absI, 0, []⟩ = some (.rt (.bl true), s1)) : FnG P WW.w K mg base 11 f fd ["_law_script"] (spLaw K) :=
  fn_law Fn sc_law (by decide) rfl hb fun cdv A outer s H E hr gd => ⟨_, pss_cons (ps_set (i := 1) sc_law.nd rfl (Or.inl rfl) (pe_callC c__law_deck hr gd (by rfl) (pa_cons (pv 0) pa_nil)))
 (pss_cons (ps_asg (pe_callC c__law_scheme hr gd (by rfl) (pa_cons (pv 1) (pa_cons pe_int (pa_cons pe_int pa_nil)))) (pg_tup rfl (pgs_cons (pg_name (i := 2) sc_law.nd rfl (Or.inl rfl)) (pgs_cons (pg_name (i := 3) sc_law.nd rfl (Or.inl rfl)) (pgs_cons (pg_name (i := 4) sc_law.nd rfl (Or.inl rfl)) pgs_nil)))))
 (pss_cons (ps_asg (pe_tup (pa_cons (pe_lst (pa_cons (pe_tup (pa_cons pe_non (pa_cons (pv 4) pa_nil))) pa_nil)) (pa_cons (pe_lst pa_nil) (pa_cons (pe_makeC c_Bench___init__ hr gd (by rfl) (pa_cons (pv 2) (pa_cons (pv 3) (pa_cons (pv 4) pa_nil)))) (pa_cons (pe_tup (pa_cons (pe_sub (units1 hr.units) (pv 2) pe_int) (pa_cons (pv 3) pa_nil))) pa_nil))))) (pg_tup rfl (pgs_cons (pg_name (i := 5) sc_law.nd rfl (Or.inl rfl)) (pgs_cons (pg_name (i := 6) sc_law.nd rfl (Or.inl rfl)) (pgs_cons (pg_name (i := 7) sc_law.nd rfl (Or.inl rfl)) (pgs_cons (pg_name (i := 8) sc_law.nd rfl (Or.inl rfl)) pgs_nil))))))
 (pss_cons (ps_for PassesOwn.never rfl (pi_range1 (by rfl) T.n_range (pa_cons pe_int pa_nil)) (pg_name (i := 9) sc_law.nd rfl (Or.inl rfl))
 (pss_cons (ps_set (i := 10) sc_law.nd rfl (Or.inl rfl) (pe_sub (units1 hr.units) (pe_sub (units1 hr.units) (pv 5) (pe_un un_neg pe_int)) pe_int))
 (pss_cons (ps_set (i := 11) sc_law.nd rfl (Or.inl rfl) (pe_callB call_lenA (by rfl) T.n_len (by decide +kernel) (pa_cons (pv 10) pa_nil)))
 (pss_cons (ps_for PassesOwn.never rfl (pi_seq (pe_lst (pa_cons (pe_callC c__law_index hr gd (by rfl) (pa_cons (pv 1) (pa_cons (pv 11) pa_nil))) (pa_cons (pe_op op_sub (pv 11) pe_int) (pa_cons (pv 11) pa_nil))))) (pg_name (i := 12) sc_law.nd rfl (Or.inl rfl))
 (pss_cons (ps_set (i := 13) sc_law.nd rfl (Or.inl rfl) (pe_ifExp (pt_truth (pe_callC c__law_is_number hr gd (by rfl) (pa_cons (pv 12) (pa_cons pe_int (pa_cons (pe_op op_sub (pv 11) pe_int) pa_nil)))) (by intro _; rfl)) (pe_lst (pa_cons pe_str (pa_cons (pe_sub (units1 hr.units) (pv 10) (pv 12)) pa_nil))) (pe_lst (pa_cons pe_str (pa_cons (pv 12) pa_nil)))))
 (pss_one (ps_if (pt_cmpR (op_neA hr.units) (pe_callB (call_reprQ gd hr.units) (by rfl) T.n_repr (by decide +kernel) (pa_cons (pe_callC c__law_got hr gd (by rfl) (pa_cons (pv 7) (pa_cons (pv 12) pa_nil))) pa_nil)) (pe_callB (call_reprQ gd hr.units) (by rfl) T.n_repr (by decide +kernel) (pa_cons (pv 13) pa_nil)) (nomark _))
 (pss_one (ps_ret pe_bl))
 pss_nil))))
 (pss_cons (ps_par (i := 14) (j := 15) rfl sc_law.nd rfl rfl (by decide) rfl rfl (pa_cons (pe_callC c__law_edit hr gd (by rfl) (pa_cons (pv 1) (pa_cons (pv 8) (pa_cons (pv 10) pa_nil)))) (pa_cons (pe_callC c__law_draw hr gd (by rfl) (pa_cons (pv 1) (pa_cons pe_int pa_nil))) pa_nil)) (by rfl))
 (pss_cons (ps_if (pt_cmpR (op_ltA hr.units) (pv 15) pe_int (nomark _))
 (pss_one (ps_par (i := 13) (j := 16) rfl sc_law.nd rfl rfl (by decide) rfl rfl (pa_cons (pe_callC c__law_backed hr gd (by rfl) (pa_cons (pv 5) (pa_cons (pv 6) (pa_cons (pv 15) pa_nil)))) (pa_cons (pe_callC c__law_back hr gd (by rfl) (pa_cons (pv 7) (pa_cons (pe_sub (units1 hr.units) (pe_lst (pa_cons pe_str (pa_cons pe_str pa_nil))) (pv 15)) pa_nil))) pa_nil)) (by rfl)))
 (pss_one (ps_if (pt_in (units1 hr.units) (pe_sub (units1 hr.units) (pv 14) pe_int) (pe_lst (pa_cons pe_str (pa_cons pe_str (pa_cons pe_str pa_nil)))))
 (pss_cons (ps_par (i := 13) (j := 16) rfl sc_law.nd rfl rfl (by decide) rfl rfl (pa_cons (pe_callC c__law_due hr gd (by rfl) (pa_cons (pv 8) (pa_cons (pv 10) (pa_cons (pv 14) pa_nil)))) (pa_cons (pe_callC c__law_by_item hr gd (by rfl) (pa_cons (pv 7) (pa_cons (pv 14) pa_nil))) pa_nil)) (by rfl))
 (pss_one (ps_if (pt_cmpR (op_eqA hr.units) (pe_sub (units1 hr.units) (pv 13) pe_int) pe_str (nomark _))
 (pss_cons (ps_expr (pe_bm PySem.F.plainAttrs_list PySem.F.slot_list_append PySem.F.type_list_append mt_append (pv 5) (pa_cons (pe_tup (pa_cons (pv 14) (pa_cons (pe_sub (units1 hr.units) (pv 13) pe_int) pa_nil))) pa_nil)))
 (pss_one (ps_par (i := 13) (j := 6) rfl sc_law.nd rfl rfl (by decide) rfl rfl (pa_cons (pe_lst (pa_cons pe_str (pa_cons (pe_op op_sub (pe_callB call_lenA (by rfl) T.n_len (by decide +kernel) (pa_cons (pv 5) pa_nil)) pe_int) pa_nil))) (pa_cons (pe_lst pa_nil) pa_nil)) (by rfl))))
 pss_nil)))
 (pss_one (ps_par (i := 13) (j := 16) rfl sc_law.nd rfl rfl (by decide) rfl rfl (pa_cons (pe_lst pa_nil) (pa_cons (pe_lst pa_nil) pa_nil)) (by rfl))))))
 (pss_cons (ps_set (i := 17) sc_law.nd rfl (Or.inl rfl) (pe_callTy (call_tupA rfl) (by rfl) T.n_tuple (by decide +kernel) (pa_cons (pe_lc (own := [("_law_step", 18)]) (g := (gName 18)) rfl sc_law.nd (pi_seq (pe_slice sl_any (pv 5) (po_some pe_int) po_none)) (blkOk_by (own := [("_law_step", 18)]) (N := ["_law_script", "_law_deck_here", "_law_kind_here", "_law_units_here", "_law_cuts", "_law_steps", "_law_undone", "_law_bench", "_law_shape", "_law_turn", "_law_now", "_law_many", "_law_index_here", "_law_due_here", "_law_edit_here", "_law_way", "_law_found", "_law_edits", "_law_step"]) (sc := defScope s_law) (by decide +kernel)) (fun _ _ _ _ _ => (pg_name (i := 18) sc_law.nd rfl (Or.inl rfl))) (fun _ _ _ _ _ => pts_nil) (fun _ _ _ _ _ => (pe_sub (units1 hr.units) (pv 18) pe_int))) pa_nil)))
 (pss_one (ps_if (pt_cmpR (op_neA hr.units) (pe_callB (call_reprQ gd hr.units) (by rfl) T.n_repr (by decide +kernel) (pa_cons (pe_lst (pa_cons (pv 16) (pa_cons (pe_methN0 c_Bench_state hr gd (pv 7)) (pa_cons (pe_methC0 c_Bench_edits hr gd (pv 7)) pa_nil)))) pa_nil)) (pe_callB (call_reprQ gd hr.units) (by rfl) T.n_repr (by decide +kernel) (pa_cons (pe_lst (pa_cons (pv 13) (pa_cons (pe_sub (units1 hr.units) (pe_sub (units1 hr.units) (pv 5) (pe_un un_neg pe_int)) pe_int) (pa_cons (pv 17) pa_nil)))) pa_nil)) (nomark _))
 (pss_one (ps_ret pe_bl))
 pss_nil)))))))))
 (pss_one (ps_ret pe_bl))))),
 (is_seq (is_asg (im_call (ia_cons (im_var 1) (ia_cons im_int (ia_cons im_int ia_nil))) (an_cons (an_cons (an_cons an_nil)))) (ig_tup (igs_cons (ig_name 2) (igs_cons (ig_name 3) (igs_cons (ig_name 4) igs_nil)))))
 (is_seq (is_asg (im_tup (ia_cons ((if_lst (ia_cons (im_tup (ia_cons im_non (ia_cons (im_var 4) ia_nil))) ia_nil))).sto (ia_cons ((if_lst ia_nil)).sto (ia_cons (im_makeC c_Bench___init__ (ia_cons (im_var 2) (ia_cons (im_var 3) (ia_cons (im_var 4) ia_nil))) (an_cons (an_cons (an_cons an_nil)))) (ia_cons (im_tup (ia_cons (im_sub ((im_var 2)).w (im_int).w) (ia_cons (im_var 3) ia_nil))) ia_nil))))) (ig_tup (igs_cons (ig_name 5) (igs_cons (ig_name 6) (igs_cons (ig_name 7) (igs_cons (ig_name 8) igs_nil))))))
 (is_seq (is_for (ii_range1 (iaw_cons (im_int).w iaw_nil)) (ig_name 9)
 (is_seq (is_asg (im_sub ((im_sub ((im_var 5)).w ((im_neg (im_int).w)).w)).w (im_int).w) (ig_name 10))
 (is_seq (is_asg (im_cb rc_lenA (iaw_cons ((im_var 10)).w iaw_nil)) (ig_name 11))
 (is_seq (is_for (ii_seq ((if_lst (ia_cons (im_call (ia_cons (im_var 1) (ia_cons (im_var 11) ia_nil)) (an_cons (an_cons an_nil))) (ia_cons (im_op ro_sub ((im_var 11)).w (im_int).w) (ia_cons (im_var 11) ia_nil))))).im) (ig_name 12)
 (is_seq (is_asg (im_if (it_truth ((im_call (ia_cons (im_var 12) (ia_cons im_int (ia_cons (im_op ro_sub ((im_var 11)).w (im_int).w) ia_nil))) (an_cons (an_cons (an_cons an_nil))))).w) ((if_lst (ia_cons im_str (ia_cons (im_sub ((im_var 10)).w ((im_var 12)).w) ia_nil)))).im ((if_lst (ia_cons im_str (ia_cons (im_var 12) ia_nil)))).im) (ig_name 13))
 (is_if (it_test (im_op ro_ne ((im_cb rc_reprQ (iaw_cons ((im_call (ia_cons (im_var 7) (ia_cons (im_var 12) ia_nil)) (an_cons (an_cons an_nil)))).w iaw_nil))).w ((im_cb rc_reprQ (iaw_cons ((im_var 13)).w iaw_nil))).w))
 (is_ret im_bl)
 is_next)))
 (is_seq (is_par 14 15 (ia_cons (im_call (ia_cons (im_var 1) (ia_cons (im_var 8) (ia_cons (im_var 10) ia_nil))) (an_cons (an_cons (an_cons an_nil)))) (ia_cons (im_call (ia_cons (im_var 1) (ia_cons im_int ia_nil)) (an_cons (an_cons an_nil))) ia_nil)))
 (is_seq (is_if (it_test (im_op ro_ltA ((im_var 15)).w (im_int).w))
 (is_par 13 16 (ia_cons (im_call (ia_cons (im_var 5) (ia_cons (im_var 6) (ia_cons (im_var 15) ia_nil))) (an_cons (an_cons (an_cons an_nil)))) (ia_cons (im_call (ia_cons (im_var 7) (ia_cons (im_sub ((if_lst (ia_cons im_str (ia_cons im_str ia_nil)))).w ((im_var 15)).w) ia_nil)) (an_cons (an_cons an_nil))) ia_nil)))
 (is_if (it_test (im_in ((im_sub ((im_var 14)).w (im_int).w)).w ((if_lst (ia_cons im_str (ia_cons im_str (ia_cons im_str ia_nil))))).w))
 (is_seq (is_par 13 16 (ia_cons (im_call (ia_cons (im_var 8) (ia_cons (im_var 10) (ia_cons (im_var 14) ia_nil))) (an_cons (an_cons (an_cons an_nil)))) (ia_cons (im_call (ia_cons (im_var 7) (ia_cons (im_var 14) ia_nil)) (an_cons (an_cons an_nil))) ia_nil)))
 (is_if (it_test (im_op ro_eq ((im_sub ((im_var 13)).w (im_int).w)).w (im_str).w))
 (is_seq (is_sapp (im_var 5) (im_tup (ia_cons (im_var 14) (ia_cons (im_sub ((im_var 13)).w (im_int).w) ia_nil))))
 (is_par2 13 6 (((if_lst (ia_cons im_str (ia_cons (im_op ro_sub ((im_cb rc_lenA (iaw_cons ((im_var 5)).w iaw_nil))).w (im_int).w) ia_nil)))).im).x (((if_lst ia_nil)).sto).x))
 is_next))
 (is_par 13 16 (ia_cons ((if_lst ia_nil)).im (ia_cons ((if_lst ia_nil)).im ia_nil)))))
 (is_seq (is_asg (im_cb rc_tupA (iaw_cons ((if_comp (vs := [18]) (ii_seq (im_sl rs_any ((im_var 5)).w (io_some (im_int).w) io_none)) (ig_name 18) it_yes (im_sub ((im_var 18)).w (im_int).w) (by decide))).w iaw_nil)) (ig_name 17))
 (is_if (it_test (im_op ro_ne ((im_cb rc_reprQ (iaw_cons ((if_lst (ia_cons (im_var 16) (ia_cons (im_methN0 c_Bench_state (im_var 7)) (ia_cons (im_methC c_Bench_edits (im_var 7) ia_nil an_nil) ia_nil))))).w iaw_nil))).w ((im_cb rc_reprQ (iaw_cons ((if_lst (ia_cons (im_var 13) (ia_cons (im_sub ((im_sub ((im_var 5)).w ((im_neg (im_int).w)).w)).w (im_int).w) (ia_cons (im_var 17) ia_nil))))).w iaw_nil))).w))
 (is_ret im_bl)
 is_next))))))))
 (is_ret im_bl))))⟩
end
theorem all_mk {l : PySem.W.OpenLaw} (ww : WW) {K : Fg} {h : Heap} {mg : Str → Option Value} {fa : Addr} (hb : ∀ ns : List Int, ns.length ≤ 63 → ∃ s1, b_law (env0 19) ⟨ns.map absI, 0, []⟩ = some (.rt (.bl true), s1)) (X : K.In h) (G : h.Ns mainGlobals mg) (hfa : mg "law" = some (.ref fa))
    {f__law_deck : Addr} {odx0 anx0 : Option Addr} {slx0 : Array (Option Value)} {ocx0 kVx0 dcx0 pmx0 cdx0 ctx0 : Value} (ax0 : PySem.W.nsIn K mainGlobals "_law_deck" = some (some (.ref f__law_deck))) (lx0 : K.lookup f__law_deck = some ⟨ocx0, odx0, .func (PySem.W.fnOf "_law_deck" "_law_deck" (defArgs s__law_deck) (defBody s__law_deck) (defScope s__law_deck) .none kVx0 dcx0 pmx0 anx0 cdx0 ctx0), slx0⟩) (ccx0 : PySem.W.codeIn K cdx0 "_law_deck" = true) (kx0 : PySem.W.keepIn K (.ref f__law_deck) = true)
    {f__law_draw : Addr} {odx1 anx1 : Option Addr} {slx1 : Array (Option Value)} {ocx1 kVx1 dcx1 pmx1 cdx1 ctx1 : Value} (ax1 : PySem.W.nsIn K mainGlobals "_law_draw" = some (some (.ref f__law_draw))) (lx1 : K.lookup f__law_draw = some ⟨ocx1, odx1, .func (PySem.W.fnOf "_law_draw" "_law_draw" (defArgs s__law_draw) (defBody s__law_draw) (defScope s__law_draw) .none kVx1 dcx1 pmx1 anx1 cdx1 ctx1), slx1⟩) (ccx1 : PySem.W.codeIn K cdx1 "_law_draw" = true) (kx1 : PySem.W.keepIn K (.ref f__law_draw) = true)
    {f__law_kind : Addr} {odx2 anx2 : Option Addr} {slx2 : Array (Option Value)} {ocx2 kVx2 dcx2 pmx2 cdx2 ctx2 : Value} (ax2 : PySem.W.nsIn K mainGlobals "_law_kind" = some (some (.ref f__law_kind))) (lx2 : K.lookup f__law_kind = some ⟨ocx2, odx2, .func (PySem.W.fnOf "_law_kind" "_law_kind" (defArgs s__law_kind) (defBody s__law_kind) (defScope s__law_kind) .none kVx2 dcx2 pmx2 anx2 cdx2 ctx2), slx2⟩) (ccx2 : PySem.W.codeIn K cdx2 "_law_kind" = true) (kx2 : PySem.W.keepIn K (.ref f__law_kind) = true)
    {f__law_one : Addr} {odx3 anx3 : Option Addr} {slx3 : Array (Option Value)} {ocx3 kVx3 dcx3 pmx3 cdx3 ctx3 : Value} (ax3 : PySem.W.nsIn K mainGlobals "_law_one" = some (some (.ref f__law_one))) (lx3 : K.lookup f__law_one = some ⟨ocx3, odx3, .func (PySem.W.fnOf "_law_one" "_law_one" (defArgs s__law_one) (defBody s__law_one) (defScope s__law_one) .none kVx3 dcx3 pmx3 anx3 cdx3 ctx3), slx3⟩) (ccx3 : PySem.W.codeIn K cdx3 "_law_one" = true) (kx3 : PySem.W.keepIn K (.ref f__law_one) = true)
    {f__law_units : Addr} {odx4 anx4 : Option Addr} {slx4 : Array (Option Value)} {ocx4 kVx4 dcx4 pmx4 cdx4 ctx4 : Value} (ax4 : PySem.W.nsIn K mainGlobals "_law_units" = some (some (.ref f__law_units))) (lx4 : K.lookup f__law_units = some ⟨ocx4, odx4, .func (PySem.W.fnOf "_law_units" "_law_units" (defArgs s__law_units) (defBody s__law_units) (defScope s__law_units) .none kVx4 dcx4 pmx4 anx4 cdx4 ctx4), slx4⟩) (ccx4 : PySem.W.codeIn K cdx4 "_law_units" = true) (kx4 : PySem.W.keepIn K (.ref f__law_units) = true)
    {f__law_cut : Addr} {odx5 anx5 : Option Addr} {slx5 : Array (Option Value)} {ocx5 kVx5 dcx5 pmx5 cdx5 ctx5 : Value} (ax5 : PySem.W.nsIn K mainGlobals "_law_cut" = some (some (.ref f__law_cut))) (lx5 : K.lookup f__law_cut = some ⟨ocx5, odx5, .func (PySem.W.fnOf "_law_cut" "_law_cut" (defArgs s__law_cut) (defBody s__law_cut) (defScope s__law_cut) .none kVx5 dcx5 pmx5 anx5 cdx5 ctx5), slx5⟩) (ccx5 : PySem.W.codeIn K cdx5 "_law_cut" = true) (kx5 : PySem.W.keepIn K (.ref f__law_cut) = true)
    {f__law_scheme : Addr} {odx6 anx6 : Option Addr} {slx6 : Array (Option Value)} {ocx6 kVx6 dcx6 pmx6 cdx6 ctx6 : Value} (ax6 : PySem.W.nsIn K mainGlobals "_law_scheme" = some (some (.ref f__law_scheme))) (lx6 : K.lookup f__law_scheme = some ⟨ocx6, odx6, .func (PySem.W.fnOf "_law_scheme" "_law_scheme" (defArgs s__law_scheme) (defBody s__law_scheme) (defScope s__law_scheme) .none kVx6 dcx6 pmx6 anx6 cdx6 ctx6), slx6⟩) (ccx6 : PySem.W.codeIn K cdx6 "_law_scheme" = true) (kx6 : PySem.W.keepIn K (.ref f__law_scheme) = true)
    {f_is_integer_words : Addr} {odx7 anx7 : Option Addr} {slx7 : Array (Option Value)} {ocx7 kVx7 dcx7 pmx7 cdx7 ctx7 : Value} (ax7 : PySem.W.nsIn K mainGlobals "is_integer_words" = some (some (.ref f_is_integer_words))) (lx7 : K.lookup f_is_integer_words = some ⟨ocx7, odx7, .func (PySem.W.fnOf "is_integer" "is_integer" (defArgs s_is_integer_words) (defBody s_is_integer_words) (defScope s_is_integer_words) .none kVx7 dcx7 pmx7 anx7 cdx7 ctx7), slx7⟩) (ccx7 : PySem.W.codeIn K cdx7 "is_integer" = true) (kx7 : PySem.W.keepIn K (.ref f_is_integer_words) = true)
    {f_is_row : Addr} {odx8 anx8 : Option Addr} {slx8 : Array (Option Value)} {ocx8 kVx8 dcx8 pmx8 cdx8 ctx8 : Value} (ax8 : PySem.W.nsIn K mainGlobals "is_row" = some (some (.ref f_is_row))) (lx8 : K.lookup f_is_row = some ⟨ocx8, odx8, .func (PySem.W.fnOf "is_row" "is_row" (defArgs s_is_row) (defBody s_is_row) (defScope s_is_row) .none kVx8 dcx8 pmx8 anx8 cdx8 ctx8), slx8⟩) (ccx8 : PySem.W.codeIn K cdx8 "is_row" = true) (kx8 : PySem.W.keepIn K (.ref f_is_row) = true)
    {f_are_rows : Addr} {odx9 anx9 : Option Addr} {slx9 : Array (Option Value)} {ocx9 kVx9 dcx9 pmx9 cdx9 ctx9 : Value} (ax9 : PySem.W.nsIn K mainGlobals "are_rows" = some (some (.ref f_are_rows))) (lx9 : K.lookup f_are_rows = some ⟨ocx9, odx9, .func (PySem.W.fnOf "are_rows" "are_rows" (defArgs s_are_rows) (defBody s_are_rows) (defScope s_are_rows) .none kVx9 dcx9 pmx9 anx9 cdx9 ctx9), slx9⟩) (ccx9 : PySem.W.codeIn K cdx9 "are_rows" = true) (kx9 : PySem.W.keepIn K (.ref f_are_rows) = true)
    {f_are_ends : Addr} {odx10 anx10 : Option Addr} {slx10 : Array (Option Value)} {ocx10 kVx10 dcx10 pmx10 cdx10 ctx10 : Value} (ax10 : PySem.W.nsIn K mainGlobals "are_ends" = some (some (.ref f_are_ends))) (lx10 : K.lookup f_are_ends = some ⟨ocx10, odx10, .func (PySem.W.fnOf "are_ends" "are_ends" (defArgs s_are_ends) (defBody s_are_ends) (defScope s_are_ends) .none kVx10 dcx10 pmx10 anx10 cdx10 ctx10), slx10⟩) (ccx10 : PySem.W.codeIn K cdx10 "are_ends" = true) (kx10 : PySem.W.keepIn K (.ref f_are_ends) = true)
    {f_kind_error : Addr} {odx11 anx11 : Option Addr} {slx11 : Array (Option Value)} {ocx11 kVx11 dcx11 pmx11 cdx11 ctx11 : Value} (ax11 : PySem.W.nsIn K mainGlobals "kind_error" = some (some (.ref f_kind_error))) (lx11 : K.lookup f_kind_error = some ⟨ocx11, odx11, .func (PySem.W.fnOf "kind_error" "kind_error" (defArgs s_kind_error) (defBody s_kind_error) (defScope s_kind_error) .none kVx11 dcx11 pmx11 anx11 cdx11 ctx11), slx11⟩) (ccx11 : PySem.W.codeIn K cdx11 "kind_error" = true) (kx11 : PySem.W.keepIn K (.ref f_kind_error) = true)
    {f_is_integer_cuts : Addr} {odx12 anx12 : Option Addr} {slx12 : Array (Option Value)} {ocx12 kVx12 dcx12 pmx12 cdx12 ctx12 : Value} (ax12 : PySem.W.nsIn K mainGlobals "is_integer_cuts" = some (some (.ref f_is_integer_cuts))) (lx12 : K.lookup f_is_integer_cuts = some ⟨ocx12, odx12, .func (PySem.W.fnOf "is_integer" "is_integer" (defArgs s_is_integer_cuts) (defBody s_is_integer_cuts) (defScope s_is_integer_cuts) .none kVx12 dcx12 pmx12 anx12 cdx12 ctx12), slx12⟩) (ccx12 : PySem.W.codeIn K cdx12 "is_integer" = true) (kx12 : PySem.W.keepIn K (.ref f_is_integer_cuts) = true)
    {f_is_cut_limit : Addr} {odx13 anx13 : Option Addr} {slx13 : Array (Option Value)} {ocx13 kVx13 dcx13 pmx13 cdx13 ctx13 : Value} (ax13 : PySem.W.nsIn K mainGlobals "is_cut_limit" = some (some (.ref f_is_cut_limit))) (lx13 : K.lookup f_is_cut_limit = some ⟨ocx13, odx13, .func (PySem.W.fnOf "is_cut_limit" "is_cut_limit" (defArgs s_is_cut_limit) (defBody s_is_cut_limit) (defScope s_is_cut_limit) .none kVx13 dcx13 pmx13 anx13 cdx13 ctx13), slx13⟩) (ccx13 : PySem.W.codeIn K cdx13 "is_cut_limit" = true) (kx13 : PySem.W.keepIn K (.ref f_is_cut_limit) = true)
    {f_are_clinging : Addr} {odx14 anx14 : Option Addr} {slx14 : Array (Option Value)} {ocx14 kVx14 dcx14 pmx14 cdx14 ctx14 : Value} (ax14 : PySem.W.nsIn K mainGlobals "are_clinging" = some (some (.ref f_are_clinging))) (lx14 : K.lookup f_are_clinging = some ⟨ocx14, odx14, .func (PySem.W.fnOf "are_clinging" "are_clinging" (defArgs s_are_clinging) (defBody s_are_clinging) (defScope s_are_clinging) .none kVx14 dcx14 pmx14 anx14 cdx14 ctx14), slx14⟩) (ccx14 : PySem.W.codeIn K cdx14 "are_clinging" = true) (kx14 : PySem.W.keepIn K (.ref f_are_clinging) = true)
    {f_is_cut : Addr} {odx15 anx15 : Option Addr} {slx15 : Array (Option Value)} {ocx15 kVx15 dcx15 pmx15 cdx15 ctx15 : Value} (ax15 : PySem.W.nsIn K mainGlobals "is_cut" = some (some (.ref f_is_cut))) (lx15 : K.lookup f_is_cut = some ⟨ocx15, odx15, .func (PySem.W.fnOf "is_cut" "is_cut" (defArgs s_is_cut) (defBody s_is_cut) (defScope s_is_cut) .none kVx15 dcx15 pmx15 anx15 cdx15 ctx15), slx15⟩) (ccx15 : PySem.W.codeIn K cdx15 "is_cut" = true) (kx15 : PySem.W.keepIn K (.ref f_is_cut) = true)
    {f_cuts_error : Addr} {odx16 anx16 : Option Addr} {slx16 : Array (Option Value)} {ocx16 kVx16 dcx16 pmx16 cdx16 ctx16 : Value} (ax16 : PySem.W.nsIn K mainGlobals "cuts_error" = some (some (.ref f_cuts_error))) (lx16 : K.lookup f_cuts_error = some ⟨ocx16, odx16, .func (PySem.W.fnOf "cuts_error" "cuts_error" (defArgs s_cuts_error) (defBody s_cuts_error) (defScope s_cuts_error) .none kVx16 dcx16 pmx16 anx16 cdx16 ctx16), slx16⟩) (ccx16 : PySem.W.codeIn K cdx16 "cuts_error" = true) (kx16 : PySem.W.keepIn K (.ref f_cuts_error) = true)
    {f_is_unit : Addr} {odx17 anx17 : Option Addr} {slx17 : Array (Option Value)} {ocx17 kVx17 dcx17 pmx17 cdx17 ctx17 : Value} (ax17 : PySem.W.nsIn K mainGlobals "is_unit" = some (some (.ref f_is_unit))) (lx17 : K.lookup f_is_unit = some ⟨ocx17, odx17, .func (PySem.W.fnOf "is_unit" "is_unit" (defArgs s_is_unit) (defBody s_is_unit) (defScope s_is_unit) .none kVx17 dcx17 pmx17 anx17 cdx17 ctx17), slx17⟩) (ccx17 : PySem.W.codeIn K cdx17 "is_unit" = true) (kx17 : PySem.W.keepIn K (.ref f_is_unit) = true)
    {f_are_units : Addr} {odx18 anx18 : Option Addr} {slx18 : Array (Option Value)} {ocx18 kVx18 dcx18 pmx18 cdx18 ctx18 : Value} (ax18 : PySem.W.nsIn K mainGlobals "are_units" = some (some (.ref f_are_units))) (lx18 : K.lookup f_are_units = some ⟨ocx18, odx18, .func (PySem.W.fnOf "are_units" "are_units" (defArgs s_are_units) (defBody s_are_units) (defScope s_are_units) .none kVx18 dcx18 pmx18 anx18 cdx18 ctx18), slx18⟩) (ccx18 : PySem.W.codeIn K cdx18 "are_units" = true) (kx18 : PySem.W.keepIn K (.ref f_are_units) = true)
    {f_scheme_error : Addr} {odx19 anx19 : Option Addr} {slx19 : Array (Option Value)} {ocx19 kVx19 dcx19 pmx19 cdx19 ctx19 : Value} (ax19 : PySem.W.nsIn K mainGlobals "scheme_error" = some (some (.ref f_scheme_error))) (lx19 : K.lookup f_scheme_error = some ⟨ocx19, odx19, .func (PySem.W.fnOf "scheme_error" "scheme_error" (defArgs s_scheme_error) (defBody s_scheme_error) (defScope s_scheme_error) .none kVx19 dcx19 pmx19 anx19 cdx19 ctx19), slx19⟩) (ccx19 : PySem.W.codeIn K cdx19 "scheme_error" = true) (kx19 : PySem.W.keepIn K (.ref f_scheme_error) = true)
    {f_need_scheme : Addr} {odx20 anx20 : Option Addr} {slx20 : Array (Option Value)} {ocx20 kVx20 dcx20 pmx20 cdx20 ctx20 : Value} (ax20 : PySem.W.nsIn K mainGlobals "need_scheme" = some (some (.ref f_need_scheme))) (lx20 : K.lookup f_need_scheme = some ⟨ocx20, odx20, .func (PySem.W.fnOf "need_scheme" "need_scheme" (defArgs s_need_scheme) (defBody s_need_scheme) (defScope s_need_scheme) .none kVx20 dcx20 pmx20 anx20 cdx20 ctx20), slx20⟩) (ccx20 : PySem.W.codeIn K cdx20 "need_scheme" = true) (kx20 : PySem.W.keepIn K (.ref f_need_scheme) = true)
    {C_Bench : Addr} (aC_Bench : PySem.W.nsIn K mainGlobals "Bench" = some (some (.ref C_Bench))) (pg_Bench : PySem.W.plainGet K C_Bench Str.empty = true) (hd_Bench : PySem.W.hasDictIn K C_Bench = true) (po_Bench : PySem.W.plainOver K C_Bench = true) (sa_Bench : PySem.W.findIn K (.ref C_Bench) "__setattr__" = some (some (.builtin "object.__setattr__"))) (mk_Bench : PySem.W.makesIn K C_Bench = true) (kc_Bench : PySem.W.keepIn K (.ref C_Bench) = true)
    (nf0_Bench : PySem.W.findIn K (.ref C_Bench) "kind" = some none)
    (nf1_Bench : PySem.W.findIn K (.ref C_Bench) "units" = some none)
    (nf2_Bench : PySem.W.findIn K (.ref C_Bench) "cuts" = some none)
    (nf3_Bench : PySem.W.findIn K (.ref C_Bench) "begun" = some none)
    (nf4_Bench : PySem.W.findIn K (.ref C_Bench) "standing" = some none)
    (nf5_Bench : PySem.W.findIn K (.ref C_Bench) "undone" = some none)
    (nf6_Bench : PySem.W.findIn K (.ref C_Bench) "is_watched" = some none)
    {T_x21 : Addr} {dt_x21 : Option Addr} {dn_x21 : Nat} {ds_x21 : Array (Option Value)} {d0_x21 : Value} {f_Bench___init__ : Addr} {odx21 anx21 : Option Addr} {slx21 : Array (Option Value)} {ocx21 kVx21 dcx21 pmx21 cdx21 ctx21 : Value} (ax21 : PySem.W.findIn K (.ref C_Bench) "__init__" = some (some (.ref f_Bench___init__))) (ix21 : PySem.W.isFn K (.ref f_Bench___init__) = true) (lx21 : K.lookup f_Bench___init__ = some ⟨ocx21, odx21, .func (PySem.W.fnOf "__init__" "Bench.__init__" (defArgs s_Bench___init__) (defBody s_Bench___init__) (defScope s_Bench___init__) (.ref T_x21) kVx21 dcx21 pmx21 anx21 cdx21 ctx21), slx21⟩) (dl_x21 : K.lookup T_x21 = some ⟨.type "tuple", dt_x21, .seq #[d0_x21] dn_x21, ds_x21⟩) (ccx21 : PySem.W.codeIn K cdx21 "Bench.__init__" = true) (kx21 : PySem.W.keepIn K (.ref f_Bench___init__) = true)
    {f__law_index : Addr} {odx22 anx22 : Option Addr} {slx22 : Array (Option Value)} {ocx22 kVx22 dcx22 pmx22 cdx22 ctx22 : Value} (ax22 : PySem.W.nsIn K mainGlobals "_law_index" = some (some (.ref f__law_index))) (lx22 : K.lookup f__law_index = some ⟨ocx22, odx22, .func (PySem.W.fnOf "_law_index" "_law_index" (defArgs s__law_index) (defBody s__law_index) (defScope s__law_index) .none kVx22 dcx22 pmx22 anx22 cdx22 ctx22), slx22⟩) (ccx22 : PySem.W.codeIn K cdx22 "_law_index" = true) (kx22 : PySem.W.keepIn K (.ref f__law_index) = true)
    {f__law_some : Addr} {odx23 anx23 : Option Addr} {slx23 : Array (Option Value)} {ocx23 kVx23 dcx23 pmx23 cdx23 ctx23 : Value} (ax23 : PySem.W.nsIn K mainGlobals "_law_some" = some (some (.ref f__law_some))) (lx23 : K.lookup f__law_some = some ⟨ocx23, odx23, .func (PySem.W.fnOf "_law_some" "_law_some" (defArgs s__law_some) (defBody s__law_some) (defScope s__law_some) .none kVx23 dcx23 pmx23 anx23 cdx23 ctx23), slx23⟩) (ccx23 : PySem.W.codeIn K cdx23 "_law_some" = true) (kx23 : PySem.W.keepIn K (.ref f__law_some) = true)
    {f__law_edit : Addr} {odx24 anx24 : Option Addr} {slx24 : Array (Option Value)} {ocx24 kVx24 dcx24 pmx24 cdx24 ctx24 : Value} (ax24 : PySem.W.nsIn K mainGlobals "_law_edit" = some (some (.ref f__law_edit))) (lx24 : K.lookup f__law_edit = some ⟨ocx24, odx24, .func (PySem.W.fnOf "_law_edit" "_law_edit" (defArgs s__law_edit) (defBody s__law_edit) (defScope s__law_edit) .none kVx24 dcx24 pmx24 anx24 cdx24 ctx24), slx24⟩) (ccx24 : PySem.W.codeIn K cdx24 "_law_edit" = true) (kx24 : PySem.W.keepIn K (.ref f__law_edit) = true)
    {f__law_is_number : Addr} {odx25 anx25 : Option Addr} {slx25 : Array (Option Value)} {ocx25 kVx25 dcx25 pmx25 cdx25 ctx25 : Value} (ax25 : PySem.W.nsIn K mainGlobals "_law_is_number" = some (some (.ref f__law_is_number))) (lx25 : K.lookup f__law_is_number = some ⟨ocx25, odx25, .func (PySem.W.fnOf "_law_is_number" "_law_is_number" (defArgs s__law_is_number) (defBody s__law_is_number) (defScope s__law_is_number) .none kVx25 dcx25 pmx25 anx25 cdx25 ctx25), slx25⟩) (ccx25 : PySem.W.codeIn K cdx25 "_law_is_number" = true) (kx25 : PySem.W.keepIn K (.ref f__law_is_number) = true)
    {f__law_backed : Addr} {odx26 anx26 : Option Addr} {slx26 : Array (Option Value)} {ocx26 kVx26 dcx26 pmx26 cdx26 ctx26 : Value} (ax26 : PySem.W.nsIn K mainGlobals "_law_backed" = some (some (.ref f__law_backed))) (lx26 : K.lookup f__law_backed = some ⟨ocx26, odx26, .func (PySem.W.fnOf "_law_backed" "_law_backed" (defArgs s__law_backed) (defBody s__law_backed) (defScope s__law_backed) .none kVx26 dcx26 pmx26 anx26 cdx26 ctx26), slx26⟩) (ccx26 : PySem.W.codeIn K cdx26 "_law_backed" = true) (kx26 : PySem.W.keepIn K (.ref f__law_backed) = true)
    {f_Bench_idle : Addr} {odx27 anx27 : Option Addr} {slx27 : Array (Option Value)} {ocx27 kVx27 dcx27 pmx27 cdx27 ctx27 : Value} (ax27 : PySem.W.findIn K (.ref C_Bench) "idle" = some (some (.ref f_Bench_idle))) (ix27 : PySem.W.isFn K (.ref f_Bench_idle) = true) (lx27 : K.lookup f_Bench_idle = some ⟨ocx27, odx27, .func (PySem.W.fnOf "idle" "Bench.idle" (defArgs s_Bench_idle) (defBody s_Bench_idle) (defScope s_Bench_idle) .none kVx27 dcx27 pmx27 anx27 cdx27 ctx27), slx27⟩) (ccx27 : PySem.W.codeIn K cdx27 "Bench.idle" = true) (kx27 : PySem.W.keepIn K (.ref f_Bench_idle) = true)
    {f_Bench_stand : Addr} {odx28 anx28 : Option Addr} {slx28 : Array (Option Value)} {ocx28 kVx28 dcx28 pmx28 cdx28 ctx28 : Value} (ax28 : PySem.W.findIn K (.ref C_Bench) "stand" = some (some (.ref f_Bench_stand))) (ix28 : PySem.W.isFn K (.ref f_Bench_stand) = true) (lx28 : K.lookup f_Bench_stand = some ⟨ocx28, odx28, .func (PySem.W.fnOf "stand" "Bench.stand" (defArgs s_Bench_stand) (defBody s_Bench_stand) (defScope s_Bench_stand) .none kVx28 dcx28 pmx28 anx28 cdx28 ctx28), slx28⟩) (ccx28 : PySem.W.codeIn K cdx28 "Bench.stand" = true) (kx28 : PySem.W.keepIn K (.ref f_Bench_stand) = true)
    {f_Bench_undo : Addr} {odx29 anx29 : Option Addr} {slx29 : Array (Option Value)} {ocx29 kVx29 dcx29 pmx29 cdx29 ctx29 : Value} (ax29 : PySem.W.findIn K (.ref C_Bench) "undo" = some (some (.ref f_Bench_undo))) (ix29 : PySem.W.isFn K (.ref f_Bench_undo) = true) (lx29 : K.lookup f_Bench_undo = some ⟨ocx29, odx29, .func (PySem.W.fnOf "undo" "Bench.undo" (defArgs s_Bench_undo) (defBody s_Bench_undo) (defScope s_Bench_undo) .none kVx29 dcx29 pmx29 anx29 cdx29 ctx29), slx29⟩) (ccx29 : PySem.W.codeIn K cdx29 "Bench.undo" = true) (kx29 : PySem.W.keepIn K (.ref f_Bench_undo) = true)
    {f_Bench_redo : Addr} {odx30 anx30 : Option Addr} {slx30 : Array (Option Value)} {ocx30 kVx30 dcx30 pmx30 cdx30 ctx30 : Value} (ax30 : PySem.W.findIn K (.ref C_Bench) "redo" = some (some (.ref f_Bench_redo))) (ix30 : PySem.W.isFn K (.ref f_Bench_redo) = true) (lx30 : K.lookup f_Bench_redo = some ⟨ocx30, odx30, .func (PySem.W.fnOf "redo" "Bench.redo" (defArgs s_Bench_redo) (defBody s_Bench_redo) (defScope s_Bench_redo) .none kVx30 dcx30 pmx30 anx30 cdx30 ctx30), slx30⟩) (ccx30 : PySem.W.codeIn K cdx30 "Bench.redo" = true) (kx30 : PySem.W.keepIn K (.ref f_Bench_redo) = true)
    {f__law_back : Addr} {odx31 anx31 : Option Addr} {slx31 : Array (Option Value)} {ocx31 kVx31 dcx31 pmx31 cdx31 ctx31 : Value} (ax31 : PySem.W.nsIn K mainGlobals "_law_back" = some (some (.ref f__law_back))) (lx31 : K.lookup f__law_back = some ⟨ocx31, odx31, .func (PySem.W.fnOf "_law_back" "_law_back" (defArgs s__law_back) (defBody s__law_back) (defScope s__law_back) .none kVx31 dcx31 pmx31 anx31 cdx31 ctx31), slx31⟩) (ccx31 : PySem.W.codeIn K cdx31 "_law_back" = true) (kx31 : PySem.W.keepIn K (.ref f__law_back) = true)
    {f_is_whole : Addr} {odx32 anx32 : Option Addr} {slx32 : Array (Option Value)} {ocx32 kVx32 dcx32 pmx32 cdx32 ctx32 : Value} (ax32 : PySem.W.nsIn K mainGlobals "is_whole" = some (some (.ref f_is_whole))) (lx32 : K.lookup f_is_whole = some ⟨ocx32, odx32, .func (PySem.W.fnOf "is_whole" "is_whole" (defArgs s_is_whole) (defBody s_is_whole) (defScope s_is_whole) .none kVx32 dcx32 pmx32 anx32 cdx32 ctx32), slx32⟩) (ccx32 : PySem.W.codeIn K cdx32 "is_whole" = true) (kx32 : PySem.W.keepIn K (.ref f_is_whole) = true)
    {f_cut_at : Addr} {odx33 anx33 : Option Addr} {slx33 : Array (Option Value)} {ocx33 kVx33 dcx33 pmx33 cdx33 ctx33 : Value} (ax33 : PySem.W.nsIn K mainGlobals "cut_at" = some (some (.ref f_cut_at))) (lx33 : K.lookup f_cut_at = some ⟨ocx33, odx33, .func (PySem.W.fnOf "cut_at" "cut_at" (defArgs s_cut_at) (defBody s_cut_at) (defScope s_cut_at) .none kVx33 dcx33 pmx33 anx33 cdx33 ctx33), slx33⟩) (ccx33 : PySem.W.codeIn K cdx33 "cut_at" = true) (kx33 : PySem.W.keepIn K (.ref f_cut_at) = true)
    {f_Bench___getitem__ : Addr} {odx34 anx34 : Option Addr} {slx34 : Array (Option Value)} {ocx34 kVx34 dcx34 pmx34 cdx34 ctx34 : Value} (ax34 : PySem.W.findIn K (.ref C_Bench) "__getitem__" = some (some (.ref f_Bench___getitem__))) (ix34 : PySem.W.isFn K (.ref f_Bench___getitem__) = true) (lx34 : K.lookup f_Bench___getitem__ = some ⟨ocx34, odx34, .func (PySem.W.fnOf "__getitem__" "Bench.__getitem__" (defArgs s_Bench___getitem__) (defBody s_Bench___getitem__) (defScope s_Bench___getitem__) .none kVx34 dcx34 pmx34 anx34 cdx34 ctx34), slx34⟩) (ccx34 : PySem.W.codeIn K cdx34 "Bench.__getitem__" = true) (kx34 : PySem.W.keepIn K (.ref f_Bench___getitem__) = true) (fix34 : PySem.W.fnIn K f_Bench___getitem__ = true) (nqx34 : PySem.W.noSeq K C_Bench = true) (sfx34 : PySem.W.selfFirst K C_Bench = true)
    {f__law_got : Addr} {odx35 anx35 : Option Addr} {slx35 : Array (Option Value)} {ocx35 kVx35 dcx35 pmx35 cdx35 ctx35 : Value} (ax35 : PySem.W.nsIn K mainGlobals "_law_got" = some (some (.ref f__law_got))) (lx35 : K.lookup f__law_got = some ⟨ocx35, odx35, .func (PySem.W.fnOf "_law_got" "_law_got" (defArgs s__law_got) (defBody s__law_got) (defScope s__law_got) .none kVx35 dcx35 pmx35 anx35 cdx35 ctx35), slx35⟩) (ccx35 : PySem.W.codeIn K cdx35 "_law_got" = true) (kx35 : PySem.W.keepIn K (.ref f__law_got) = true)
    {f__law_is_cut : Addr} {odx36 anx36 : Option Addr} {slx36 : Array (Option Value)} {ocx36 kVx36 dcx36 pmx36 cdx36 ctx36 : Value} (ax36 : PySem.W.nsIn K mainGlobals "_law_is_cut" = some (some (.ref f__law_is_cut))) (lx36 : K.lookup f__law_is_cut = some ⟨ocx36, odx36, .func (PySem.W.fnOf "_law_is_cut" "_law_is_cut" (defArgs s__law_is_cut) (defBody s__law_is_cut) (defScope s__law_is_cut) .none kVx36 dcx36 pmx36 anx36 cdx36 ctx36), slx36⟩) (ccx36 : PySem.W.codeIn K cdx36 "_law_is_cut" = true) (kx36 : PySem.W.keepIn K (.ref f__law_is_cut) = true)
    {f__law_cuts_error : Addr} {odx37 anx37 : Option Addr} {slx37 : Array (Option Value)} {ocx37 kVx37 dcx37 pmx37 cdx37 ctx37 : Value} (ax37 : PySem.W.nsIn K mainGlobals "_law_cuts_error" = some (some (.ref f__law_cuts_error))) (lx37 : K.lookup f__law_cuts_error = some ⟨ocx37, odx37, .func (PySem.W.fnOf "_law_cuts_error" "_law_cuts_error" (defArgs s__law_cuts_error) (defBody s__law_cuts_error) (defScope s__law_cuts_error) .none kVx37 dcx37 pmx37 anx37 cdx37 ctx37), slx37⟩) (ccx37 : PySem.W.codeIn K cdx37 "_law_cuts_error" = true) (kx37 : PySem.W.keepIn K (.ref f__law_cuts_error) = true)
    {f__law_due : Addr} {odx38 anx38 : Option Addr} {slx38 : Array (Option Value)} {ocx38 kVx38 dcx38 pmx38 cdx38 ctx38 : Value} (ax38 : PySem.W.nsIn K mainGlobals "_law_due" = some (some (.ref f__law_due))) (lx38 : K.lookup f__law_due = some ⟨ocx38, odx38, .func (PySem.W.fnOf "_law_due" "_law_due" (defArgs s__law_due) (defBody s__law_due) (defScope s__law_due) .none kVx38 dcx38 pmx38 anx38 cdx38 ctx38), slx38⟩) (ccx38 : PySem.W.codeIn K cdx38 "_law_due" = true) (kx38 : PySem.W.keepIn K (.ref f__law_due) = true)
    {f_Bench_ready : Addr} {odx39 anx39 : Option Addr} {slx39 : Array (Option Value)} {ocx39 kVx39 dcx39 pmx39 cdx39 ctx39 : Value} (ax39 : PySem.W.findIn K (.ref C_Bench) "ready" = some (some (.ref f_Bench_ready))) (ix39 : PySem.W.isFn K (.ref f_Bench_ready) = true) (lx39 : K.lookup f_Bench_ready = some ⟨ocx39, odx39, .func (PySem.W.fnOf "ready" "Bench.ready" (defArgs s_Bench_ready) (defBody s_Bench_ready) (defScope s_Bench_ready) .none kVx39 dcx39 pmx39 anx39 cdx39 ctx39), slx39⟩) (ccx39 : PySem.W.codeIn K cdx39 "Bench.ready" = true) (kx39 : PySem.W.keepIn K (.ref f_Bench_ready) = true)
    {f_Bench_judge : Addr} {odx40 anx40 : Option Addr} {slx40 : Array (Option Value)} {ocx40 kVx40 dcx40 pmx40 cdx40 ctx40 : Value} (ax40 : PySem.W.findIn K (.ref C_Bench) "judge" = some (some (.ref f_Bench_judge))) (ix40 : PySem.W.isFn K (.ref f_Bench_judge) = true) (lx40 : K.lookup f_Bench_judge = some ⟨ocx40, odx40, .func (PySem.W.fnOf "judge" "Bench.judge" (defArgs s_Bench_judge) (defBody s_Bench_judge) (defScope s_Bench_judge) .none kVx40 dcx40 pmx40 anx40 cdx40 ctx40), slx40⟩) (ccx40 : PySem.W.codeIn K cdx40 "Bench.judge" = true) (kx40 : PySem.W.keepIn K (.ref f_Bench_judge) = true)
    {f_Bench_settle : Addr} {odx41 anx41 : Option Addr} {slx41 : Array (Option Value)} {ocx41 kVx41 dcx41 pmx41 cdx41 ctx41 : Value} (ax41 : PySem.W.findIn K (.ref C_Bench) "settle" = some (some (.ref f_Bench_settle))) (ix41 : PySem.W.isFn K (.ref f_Bench_settle) = true) (lx41 : K.lookup f_Bench_settle = some ⟨ocx41, odx41, .func (PySem.W.fnOf "settle" "Bench.settle" (defArgs s_Bench_settle) (defBody s_Bench_settle) (defScope s_Bench_settle) .none kVx41 dcx41 pmx41 anx41 cdx41 ctx41), slx41⟩) (ccx41 : PySem.W.codeIn K cdx41 "Bench.settle" = true) (kx41 : PySem.W.keepIn K (.ref f_Bench_settle) = true)
    {f_need_cuts : Addr} {odx42 anx42 : Option Addr} {slx42 : Array (Option Value)} {ocx42 kVx42 dcx42 pmx42 cdx42 ctx42 : Value} (ax42 : PySem.W.nsIn K mainGlobals "need_cuts" = some (some (.ref f_need_cuts))) (lx42 : K.lookup f_need_cuts = some ⟨ocx42, odx42, .func (PySem.W.fnOf "need_cuts" "need_cuts" (defArgs s_need_cuts) (defBody s_need_cuts) (defScope s_need_cuts) .none kVx42 dcx42 pmx42 anx42 cdx42 ctx42), slx42⟩) (ccx42 : PySem.W.codeIn K cdx42 "need_cuts" = true) (kx42 : PySem.W.keepIn K (.ref f_need_cuts) = true)
    {f_lifted : Addr} {odx43 anx43 : Option Addr} {slx43 : Array (Option Value)} {ocx43 kVx43 dcx43 pmx43 cdx43 ctx43 : Value} (ax43 : PySem.W.nsIn K mainGlobals "lifted" = some (some (.ref f_lifted))) (lx43 : K.lookup f_lifted = some ⟨ocx43, odx43, .func (PySem.W.fnOf "lifted" "lifted" (defArgs s_lifted) (defBody s_lifted) (defScope s_lifted) .none kVx43 dcx43 pmx43 anx43 cdx43 ctx43), slx43⟩) (ccx43 : PySem.W.codeIn K cdx43 "lifted" = true) (kx43 : PySem.W.keepIn K (.ref f_lifted) = true)
    {f_edited : Addr} {odx44 anx44 : Option Addr} {slx44 : Array (Option Value)} {ocx44 kVx44 dcx44 pmx44 cdx44 ctx44 : Value} (ax44 : PySem.W.nsIn K mainGlobals "edited" = some (some (.ref f_edited))) (lx44 : K.lookup f_edited = some ⟨ocx44, odx44, .func (PySem.W.fnOf "edited" "edited" (defArgs s_edited) (defBody s_edited) (defScope s_edited) .none kVx44 dcx44 pmx44 anx44 cdx44 ctx44), slx44⟩) (ccx44 : PySem.W.codeIn K cdx44 "edited" = true) (kx44 : PySem.W.keepIn K (.ref f_edited) = true)
    {f_Bench_do : Addr} {odx45 anx45 : Option Addr} {slx45 : Array (Option Value)} {ocx45 kVx45 dcx45 pmx45 cdx45 ctx45 : Value} (ax45 : PySem.W.findIn K (.ref C_Bench) "do" = some (some (.ref f_Bench_do))) (ix45 : PySem.W.isFn K (.ref f_Bench_do) = true) (lx45 : K.lookup f_Bench_do = some ⟨ocx45, odx45, .func (PySem.W.fnOf "do" "Bench.do" (defArgs s_Bench_do) (defBody s_Bench_do) (defScope s_Bench_do) .none kVx45 dcx45 pmx45 anx45 cdx45 ctx45), slx45⟩) (ccx45 : PySem.W.codeIn K cdx45 "Bench.do" = true) (kx45 : PySem.W.keepIn K (.ref f_Bench_do) = true)
    {f_Bench_add : Addr} {odx46 anx46 : Option Addr} {slx46 : Array (Option Value)} {ocx46 kVx46 dcx46 pmx46 cdx46 ctx46 : Value} (ax46 : PySem.W.findIn K (.ref C_Bench) "add" = some (some (.ref f_Bench_add))) (ix46 : PySem.W.isFn K (.ref f_Bench_add) = true) (lx46 : K.lookup f_Bench_add = some ⟨ocx46, odx46, .func (PySem.W.fnOf "add" "Bench.add" (defArgs s_Bench_add) (defBody s_Bench_add) (defScope s_Bench_add) .none kVx46 dcx46 pmx46 anx46 cdx46 ctx46), slx46⟩) (ccx46 : PySem.W.codeIn K cdx46 "Bench.add" = true) (kx46 : PySem.W.keepIn K (.ref f_Bench_add) = true)
    {f_Bench___iadd__ : Addr} {odx47 anx47 : Option Addr} {slx47 : Array (Option Value)} {ocx47 kVx47 dcx47 pmx47 cdx47 ctx47 : Value} (ax47 : PySem.W.findIn K (.ref C_Bench) (dunderI (Operator.info .Add).2) = some (some (.ref f_Bench___iadd__))) (ix47 : PySem.W.isFn K (.ref f_Bench___iadd__) = true) (lx47 : K.lookup f_Bench___iadd__ = some ⟨ocx47, odx47, .func (PySem.W.fnOf "__iadd__" "Bench.__iadd__" (defArgs s_Bench___iadd__) (defBody s_Bench___iadd__) (defScope s_Bench___iadd__) .none kVx47 dcx47 pmx47 anx47 cdx47 ctx47), slx47⟩) (ccx47 : PySem.W.codeIn K cdx47 "Bench.__iadd__" = true) (kx47 : PySem.W.keepIn K (.ref f_Bench___iadd__) = true) (fix47 : PySem.W.fnIn K f_Bench___iadd__ = true) (nqx47 : PySem.W.noSeq K C_Bench = true) (sfx47 : PySem.W.selfFirst K C_Bench = true)
    {f_Bench_drop : Addr} {odx48 anx48 : Option Addr} {slx48 : Array (Option Value)} {ocx48 kVx48 dcx48 pmx48 cdx48 ctx48 : Value} (ax48 : PySem.W.findIn K (.ref C_Bench) "drop" = some (some (.ref f_Bench_drop))) (ix48 : PySem.W.isFn K (.ref f_Bench_drop) = true) (lx48 : K.lookup f_Bench_drop = some ⟨ocx48, odx48, .func (PySem.W.fnOf "drop" "Bench.drop" (defArgs s_Bench_drop) (defBody s_Bench_drop) (defScope s_Bench_drop) .none kVx48 dcx48 pmx48 anx48 cdx48 ctx48), slx48⟩) (ccx48 : PySem.W.codeIn K cdx48 "Bench.drop" = true) (kx48 : PySem.W.keepIn K (.ref f_Bench_drop) = true)
    {f_Bench___isub__ : Addr} {odx49 anx49 : Option Addr} {slx49 : Array (Option Value)} {ocx49 kVx49 dcx49 pmx49 cdx49 ctx49 : Value} (ax49 : PySem.W.findIn K (.ref C_Bench) (dunderI (Operator.info .Sub).2) = some (some (.ref f_Bench___isub__))) (ix49 : PySem.W.isFn K (.ref f_Bench___isub__) = true) (lx49 : K.lookup f_Bench___isub__ = some ⟨ocx49, odx49, .func (PySem.W.fnOf "__isub__" "Bench.__isub__" (defArgs s_Bench___isub__) (defBody s_Bench___isub__) (defScope s_Bench___isub__) .none kVx49 dcx49 pmx49 anx49 cdx49 ctx49), slx49⟩) (ccx49 : PySem.W.codeIn K cdx49 "Bench.__isub__" = true) (kx49 : PySem.W.keepIn K (.ref f_Bench___isub__) = true) (fix49 : PySem.W.fnIn K f_Bench___isub__ = true) (nqx49 : PySem.W.noSeq K C_Bench = true) (sfx49 : PySem.W.selfFirst K C_Bench = true)
    {f_Bench___len__ : Addr} {odx50 anx50 : Option Addr} {slx50 : Array (Option Value)} {ocx50 kVx50 dcx50 pmx50 cdx50 ctx50 : Value} (ax50 : PySem.W.findIn K (.ref C_Bench) "__len__" = some (some (.ref f_Bench___len__))) (ix50 : PySem.W.isFn K (.ref f_Bench___len__) = true) (lx50 : K.lookup f_Bench___len__ = some ⟨ocx50, odx50, .func (PySem.W.fnOf "__len__" "Bench.__len__" (defArgs s_Bench___len__) (defBody s_Bench___len__) (defScope s_Bench___len__) .none kVx50 dcx50 pmx50 anx50 cdx50 ctx50), slx50⟩) (ccx50 : PySem.W.codeIn K cdx50 "Bench.__len__" = true) (kx50 : PySem.W.keepIn K (.ref f_Bench___len__) = true)
    {f_Bench_change : Addr} {odx51 anx51 : Option Addr} {slx51 : Array (Option Value)} {ocx51 kVx51 dcx51 pmx51 cdx51 ctx51 : Value} (ax51 : PySem.W.findIn K (.ref C_Bench) "change" = some (some (.ref f_Bench_change))) (ix51 : PySem.W.isFn K (.ref f_Bench_change) = true) (lx51 : K.lookup f_Bench_change = some ⟨ocx51, odx51, .func (PySem.W.fnOf "change" "Bench.change" (defArgs s_Bench_change) (defBody s_Bench_change) (defScope s_Bench_change) .none kVx51 dcx51 pmx51 anx51 cdx51 ctx51), slx51⟩) (ccx51 : PySem.W.codeIn K cdx51 "Bench.change" = true) (kx51 : PySem.W.keepIn K (.ref f_Bench_change) = true)
    {f_Bench___setitem__ : Addr} {odx52 anx52 : Option Addr} {slx52 : Array (Option Value)} {ocx52 kVx52 dcx52 pmx52 cdx52 ctx52 : Value} (ax52 : PySem.W.findIn K (.ref C_Bench) "__setitem__" = some (some (.ref f_Bench___setitem__))) (ix52 : PySem.W.isFn K (.ref f_Bench___setitem__) = true) (lx52 : K.lookup f_Bench___setitem__ = some ⟨ocx52, odx52, .func (PySem.W.fnOf "__setitem__" "Bench.__setitem__" (defArgs s_Bench___setitem__) (defBody s_Bench___setitem__) (defScope s_Bench___setitem__) .none kVx52 dcx52 pmx52 anx52 cdx52 ctx52), slx52⟩) (ccx52 : PySem.W.codeIn K cdx52 "Bench.__setitem__" = true) (kx52 : PySem.W.keepIn K (.ref f_Bench___setitem__) = true) (fix52 : PySem.W.fnIn K f_Bench___setitem__ = true) (nqx52 : PySem.W.noSeq K C_Bench = true) (sfx52 : PySem.W.selfFirst K C_Bench = true)
    {f__law_by_item : Addr} {odx53 anx53 : Option Addr} {slx53 : Array (Option Value)} {ocx53 kVx53 dcx53 pmx53 cdx53 ctx53 : Value} (ax53 : PySem.W.nsIn K mainGlobals "_law_by_item" = some (some (.ref f__law_by_item))) (lx53 : K.lookup f__law_by_item = some ⟨ocx53, odx53, .func (PySem.W.fnOf "_law_by_item" "_law_by_item" (defArgs s__law_by_item) (defBody s__law_by_item) (defScope s__law_by_item) .none kVx53 dcx53 pmx53 anx53 cdx53 ctx53), slx53⟩) (ccx53 : PySem.W.codeIn K cdx53 "_law_by_item" = true) (kx53 : PySem.W.keepIn K (.ref f__law_by_item) = true)
    {f_Bench_state kDx54 : Addr} {odx54 anx54 : Option Addr} {slx54 : Array (Option Value)} {ocx54 dcx54 pmx54 cdx54 ctx54 : Value} (ax54 : PySem.W.findIn K (.ref C_Bench) "state" = some (some (.ref f_Bench_state))) (ix54 : PySem.W.isFn K (.ref f_Bench_state) = true) (lx54 : K.lookup f_Bench_state = some ⟨ocx54, odx54, .func (PySem.W.fnOf "state" "Bench.state" (defArgs s_Bench_state) (defBody s_Bench_state) (defScope s_Bench_state) .none (.ref kDx54) dcx54 pmx54 anx54 cdx54 ctx54), slx54⟩) (ccx54 : PySem.W.codeIn K cdx54 "Bench.state" = true) (kx54 : PySem.W.keepIn K (.ref f_Bench_state) = true) (kw0x54 : PySem.W.nsIn K kDx54 "version" = some (some .none))
    {f_Bench_edits : Addr} {odx55 anx55 : Option Addr} {slx55 : Array (Option Value)} {ocx55 kVx55 dcx55 pmx55 cdx55 ctx55 : Value} (ax55 : PySem.W.findIn K (.ref C_Bench) "edits" = some (some (.ref f_Bench_edits))) (ix55 : PySem.W.isFn K (.ref f_Bench_edits) = true) (lx55 : K.lookup f_Bench_edits = some ⟨ocx55, odx55, .func (PySem.W.fnOf "edits" "Bench.edits" (defArgs s_Bench_edits) (defBody s_Bench_edits) (defScope s_Bench_edits) .none kVx55 dcx55 pmx55 anx55 cdx55 ctx55), slx55⟩) (ccx55 : PySem.W.codeIn K cdx55 "Bench.edits" = true) (kx55 : PySem.W.keepIn K (.ref f_Bench_edits) = true)
    {f_law : Addr} {odx56 anx56 : Option Addr} {slx56 : Array (Option Value)} {ocx56 kVx56 dcx56 pmx56 cdx56 ctx56 : Value} (ax56 : PySem.W.nsIn K mainGlobals "law" = some (some (.ref f_law))) (lx56 : K.lookup f_law = some ⟨ocx56, odx56, .func (PySem.W.fnOf "law" "law" (defArgs s_law) (defBody s_law) (defScope s_law) .none kVx56 dcx56 pmx56 anx56 cdx56 ctx56), slx56⟩) (ccx56 : PySem.W.codeIn K cdx56 "law" = true) (kx56 : PySem.W.keepIn K (.ref f_law) = true)
    (zL_LE : PySem.W.nsIn K mainGlobals "LookupError" = some none) (vL_LE : PySem.W.findCls K (.type "LookupError") (.type "type") "__init__" = some (.val (.builtin "LookupError.__init__")))
    {C_NoCut : Addr} {xn_NoCut xq_NoCut : Str} {xN_NoCut : Addr} {xs_NoCut xu_NoCut : List Value} {xo_NoCut : List Str} {xa_NoCut : Bool} {xc_NoCut : Option Bool} {xd_NoCut : Option Addr} {m0_NoCut m1_NoCut m2_NoCut m3_NoCut m5_NoCut : Option Value}
    (aC_NoCut : PySem.W.nsIn K mainGlobals "NoCut" = some (some (.ref C_NoCut))) (xL_NoCut : K.lookup C_NoCut = some (excClassObj xn_NoCut xq_NoCut C_NoCut xN_NoCut xs_NoCut [.type "LookupError", .type "Exception", .type "BaseException", .type "object"] true xo_NoCut xu_NoCut xa_NoCut xc_NoCut xd_NoCut m0_NoCut m1_NoCut m2_NoCut m3_NoCut m5_NoCut "LookupError.__new__"))
    (sa_NoCut : PySem.W.findIn K (.ref C_NoCut) "__setattr__" = some (some (.builtin "object.__setattr__"))) (ga_NoCut : PySem.W.findIn K (.ref C_NoCut) "__getattribute__" = some (some (.builtin "BaseException.__getattribute__"))) (gg_NoCut : PySem.W.findIn K (.ref C_NoCut) "__getattr__" = some none) (no_NoCut : PySem.W.findIn K (.ref C_NoCut) "index" = some none) (hd_NoCut : PySem.W.hasDictIn K C_NoCut = true) (kc_NoCut : PySem.W.keepIn K (.ref C_NoCut) = true) (ex_NoCut : PySem.W.subIn K (.ref C_NoCut) (.type "BaseException") = some true) (ty_NoCut : PySem.W.typeIn K (.ref C_NoCut) = some (.type "type")) (ic_NoCut : PySem.W.isClsIn K C_NoCut = true)
    {f_NoCut : Addr} {yd_NoCut yn_NoCut : Option Addr} {yl_NoCut : Array (Option Value)} {yo_NoCut yk_NoCut yc_NoCut yp_NoCut ye_NoCut yt_NoCut : Value} (ai_NoCut : PySem.W.findIn K (.ref C_NoCut) "__init__" = some (some (.ref f_NoCut))) (ti_NoCut : PySem.W.typeIn K (.ref f_NoCut) = some (.type "function")) (li_NoCut : K.lookup f_NoCut = some ⟨yo_NoCut, yd_NoCut, .func (PySem.W.fnOf "__init__" "NoCut.__init__" (defArgs s_NoCut___init__) (defBody s_NoCut___init__) (defScope s_NoCut___init__) .none yk_NoCut yc_NoCut yp_NoCut yn_NoCut ye_NoCut yt_NoCut), yl_NoCut⟩) (ci_NoCut : PySem.W.codeIn K ye_NoCut "NoCut.__init__" = true) (ki_NoCut : PySem.W.keepIn K (.ref f_NoCut) = true)
    {C_UnitError : Addr} (aC_UnitError : PySem.W.nsIn K mainGlobals "UnitError" = some (some (.ref C_UnitError))) (br_UnitError : PySem.W.readsIn K C_UnitError (.type "type") = true) (bg_UnitError : PySem.W.specialIn K (.ref C_UnitError) "__getattribute__" = some (some (.builtin "type.__getattribute__"))) (au_UnitError : PySem.W.findCls K (.ref C_UnitError) (.type "type") "__init__" = some (.val (.builtin "ValueError.__init__")))
    {C_BadCuts : Addr} {xn_BadCuts xq_BadCuts : Str} {xN_BadCuts : Addr} {xs_BadCuts xu_BadCuts : List Value} {xo_BadCuts : List Str} {xa_BadCuts : Bool} {xc_BadCuts : Option Bool} {xd_BadCuts : Option Addr} {m0_BadCuts m1_BadCuts m2_BadCuts m3_BadCuts m5_BadCuts : Option Value}
    (aC_BadCuts : PySem.W.nsIn K mainGlobals "BadCuts" = some (some (.ref C_BadCuts))) (xL_BadCuts : K.lookup C_BadCuts = some (excClassObj xn_BadCuts xq_BadCuts C_BadCuts xN_BadCuts xs_BadCuts [.ref C_UnitError, .type "ValueError", .type "Exception", .type "BaseException", .type "object"] true xo_BadCuts xu_BadCuts xa_BadCuts xc_BadCuts xd_BadCuts m0_BadCuts m1_BadCuts m2_BadCuts m3_BadCuts m5_BadCuts "ValueError.__new__"))
    (sa_BadCuts : PySem.W.findIn K (.ref C_BadCuts) "__setattr__" = some (some (.builtin "object.__setattr__"))) (ga_BadCuts : PySem.W.findIn K (.ref C_BadCuts) "__getattribute__" = some (some (.builtin "BaseException.__getattribute__"))) (gg_BadCuts : PySem.W.findIn K (.ref C_BadCuts) "__getattr__" = some none) (no_BadCuts : PySem.W.findIn K (.ref C_BadCuts) "error" = some none) (hd_BadCuts : PySem.W.hasDictIn K C_BadCuts = true) (kc_BadCuts : PySem.W.keepIn K (.ref C_BadCuts) = true) (ex_BadCuts : PySem.W.subIn K (.ref C_BadCuts) (.type "BaseException") = some true) (ty_BadCuts : PySem.W.typeIn K (.ref C_BadCuts) = some (.type "type")) (ic_BadCuts : PySem.W.isClsIn K C_BadCuts = true)
    {f_BadCuts : Addr} {yd_BadCuts yn_BadCuts : Option Addr} {yl_BadCuts : Array (Option Value)} {yo_BadCuts yk_BadCuts yc_BadCuts yp_BadCuts ye_BadCuts yt_BadCuts : Value} (ai_BadCuts : PySem.W.findIn K (.ref C_BadCuts) "__init__" = some (some (.ref f_BadCuts))) (ti_BadCuts : PySem.W.typeIn K (.ref f_BadCuts) = some (.type "function")) (li_BadCuts : K.lookup f_BadCuts = some ⟨yo_BadCuts, yd_BadCuts, .func (PySem.W.fnOf "__init__" "BadCuts.__init__" (defArgs s_BadCuts___init__) (defBody s_BadCuts___init__) (defScope s_BadCuts___init__) .none yk_BadCuts yc_BadCuts yp_BadCuts yn_BadCuts ye_BadCuts yt_BadCuts), yl_BadCuts⟩) (ci_BadCuts : PySem.W.codeIn K ye_BadCuts "BadCuts.__init__" = true) (ki_BadCuts : PySem.W.keepIn K (.ref f_BadCuts) = true)
    {C_NothingToUndo : Addr} (aC_NothingToUndo : PySem.W.nsIn K mainGlobals "NothingToUndo" = some (some (.ref C_NothingToUndo))) (ev_NothingToUndo : PySem.W.excIn K C_NothingToUndo [.type "ValueError", .type "Exception", .type "BaseException", .type "object"] "ValueError.__new__" = true) (kc_NothingToUndo : PySem.W.keepIn K (.ref C_NothingToUndo) = true) (ex_NothingToUndo : PySem.W.subIn K (.ref C_NothingToUndo) (.type "BaseException") = some true) (ty_NothingToUndo : PySem.W.typeIn K (.ref C_NothingToUndo) = some (.type "type")) (ic_NothingToUndo : PySem.W.isClsIn K C_NothingToUndo = true)
    {C_NothingToRedo : Addr} (aC_NothingToRedo : PySem.W.nsIn K mainGlobals "NothingToRedo" = some (some (.ref C_NothingToRedo))) (ev_NothingToRedo : PySem.W.excIn K C_NothingToRedo [.type "ValueError", .type "Exception", .type "BaseException", .type "object"] "ValueError.__new__" = true) (kc_NothingToRedo : PySem.W.keepIn K (.ref C_NothingToRedo) = true) (ex_NothingToRedo : PySem.W.subIn K (.ref C_NothingToRedo) (.type "BaseException") = some true) (ty_NothingToRedo : PySem.W.typeIn K (.ref C_NothingToRedo) = some (.type "type")) (ic_NothingToRedo : PySem.W.isClsIn K C_NothingToRedo = true)
    (sb_NothingToUndo_NothingToUndo : PySem.W.subIn K (.ref C_NothingToUndo) (.ref C_NothingToUndo) = some true)
    (sb_NothingToRedo_NothingToUndo : PySem.W.subIn K (.ref C_NothingToRedo) (.ref C_NothingToUndo) = some false)
    (sb_NothingToRedo_NothingToRedo : PySem.W.subIn K (.ref C_NothingToRedo) (.ref C_NothingToRedo) = some true)
    (sb_NoCut_NoCut : PySem.W.subIn K (.ref C_NoCut) (.ref C_NoCut) = some true)
    (sb_BadCuts_NoCut : PySem.W.subIn K (.ref C_BadCuts) (.ref C_NoCut) = some false)
    (sb_BadCuts_BadCuts : PySem.W.subIn K (.ref C_BadCuts) (.ref C_BadCuts) = some true)
    (z_n_range : PySem.W.nsIn K mainGlobals "range" = some none)
    (z_n_tuple : PySem.W.nsIn K mainGlobals "tuple" = some none)
    (z_n_len : PySem.W.nsIn K mainGlobals "len" = some none)
    (z_n_isinstance : PySem.W.nsIn K mainGlobals "isinstance" = some none)
    (z_n_int : PySem.W.nsIn K mainGlobals "int" = some none)
    (z_n_bool : PySem.W.nsIn K mainGlobals "bool" = some none)
    {t_c_MAX_STATES : Tok} (z_c_MAX_STATES : PySem.W.nsIn K mainGlobals "MAX_STATES" = some (some (.int 8 t_c_MAX_STATES)))
    {t_c_MAX_LETTERS : Tok} (z_c_MAX_LETTERS : PySem.W.nsIn K mainGlobals "MAX_LETTERS" = some (some (.int 4 t_c_MAX_LETTERS)))
    {t_c_MAX_CUT : Tok} (z_c_MAX_CUT : PySem.W.nsIn K mainGlobals "MAX_CUT" = some (some (.int 20 t_c_MAX_CUT)))
    (z_n_str : PySem.W.nsIn K mainGlobals "str" = some none)
    {t_c_LETTERS_limits : Tok} (z_c_LETTERS_limits : PySem.W.nsIn K mainGlobals "LETTERS_limits" = some (some (.str "abcd" t_c_LETTERS_limits)))
    (z_n_enumerate : PySem.W.nsIn K mainGlobals "enumerate" = some none)
    {t_c_MAX_CUTS : Tok} (z_c_MAX_CUTS : PySem.W.nsIn K mainGlobals "MAX_CUTS" = some (some (.int 3 t_c_MAX_CUTS)))
    {t_c_MAX_COUNT : Tok} (z_c_MAX_COUNT : PySem.W.nsIn K mainGlobals "MAX_COUNT" = some (some (.int 9 t_c_MAX_COUNT)))
    {t_c_MAX_EDITS : Tok} (z_c_MAX_EDITS : PySem.W.nsIn K mainGlobals "MAX_EDITS" = some (some (.int 60 t_c_MAX_EDITS)))
    (z_n_repr : PySem.W.nsIn K mainGlobals "repr" = some none)
    (z_n_abs : PySem.W.nsIn K mainGlobals "abs" = some none) :
    ∃ fd : FuncData, (∀ (s : Shared) (v : Value), BindsTo s fd ⟨[v], []⟩ [("_law_script", v)]) ∧ ∀ base : Heap, K.In base → base.Ns mainGlobals mg → FnG l.prog WW.w K mg base 11 fa fd ["_law_script"] (spLaw K) := by
  have e := hfa.symm.trans (PySem.W.mg_of X G ax56)
  cases e
  have T : Txt K mg := ⟨PySem.W.mg_none_of X G z_n_range, PySem.W.mg_none_of X G z_n_tuple, PySem.W.mg_none_of X G z_n_len, PySem.W.mg_none_of X G z_n_isinstance, PySem.W.mg_none_of X G z_n_int, PySem.W.mg_none_of X G z_n_bool, ⟨_, PySem.W.mg_of X G z_c_MAX_STATES⟩, ⟨_, PySem.W.mg_of X G z_c_MAX_LETTERS⟩, ⟨_, PySem.W.mg_of X G z_c_MAX_CUT⟩, PySem.W.mg_none_of X G z_n_str, ⟨_, PySem.W.mg_of X G z_c_LETTERS_limits⟩, PySem.W.mg_none_of X G z_n_enumerate, ⟨_, PySem.W.mg_of X G z_c_MAX_CUTS⟩, ⟨_, PySem.W.mg_of X G z_c_MAX_COUNT⟩, clsOk_mk aC_Bench ⟨pg_Bench, hd_Bench, po_Bench, sa_Bench⟩ (List.forall_mem_cons.mpr ⟨nf0_Bench, List.forall_mem_cons.mpr ⟨nf1_Bench, List.forall_mem_cons.mpr ⟨nf2_Bench, List.forall_mem_cons.mpr ⟨nf3_Bench, List.forall_mem_cons.mpr ⟨nf4_Bench, List.forall_mem_cons.mpr ⟨nf5_Bench, List.forall_mem_cons.mpr ⟨nf6_Bench, fun _ h => nomatch h⟩⟩⟩⟩⟩⟩⟩), ⟨_, PySem.W.mg_of X G z_c_MAX_EDITS⟩, PySem.W.mg_none_of X G z_n_repr, PySem.W.mg_none_of X G z_n_abs⟩
  refine ⟨PySem.W.fnOf "law" "law" (defArgs s_law) (defBody s_law) (defScope s_law) .none kVx56 dcx56 pmx56 anx56 cdx56 ctx56, fun s v => .of_eq rfl, fun base _ _ => ?_⟩
  have FI_NoCut := fun_mk (st := s_NoCut___init__) li_NoCut ci_NoCut ki_NoCut
  have bI_NoCut := FI_NoCut.binds (ps := ["self", "index"]) fun _ _ _ _ _ _ us hl => match us, hl with | [_, _], _ => rfl
  have O_NoCut := olxC_mk xL_NoCut sa_NoCut ex_NoCut ty_NoCut kc_NoCut
  have x_NoCut : XClsL l.prog WW.w K mg base "NoCut" "index" C_NoCut := ⟨PySem.W.mg_of X G aC_NoCut, O_NoCut, ga_NoCut, gg_NoCut, no_NoCut, hd_NoCut, _, _, _, ai_NoCut, ti_NoCut, ok_NoCut___init__ (PySem.W.mg_none_of X G zL_LE) vL_LE O_NoCut no_NoCut FI_NoCut, bI_NoCut⟩
  have FI_BadCuts := fun_mk (st := s_BadCuts___init__) li_BadCuts ci_BadCuts ki_BadCuts
  have bI_BadCuts := FI_BadCuts.binds (ps := ["self", "error"]) fun _ _ _ _ _ _ us hl => match us, hl with | [_, _], _ => rfl
  have O_BadCuts := oexC_mk xL_BadCuts sa_BadCuts ex_BadCuts ty_BadCuts kc_BadCuts
  have x_BadCuts : XCls l.prog WW.w K mg base "BadCuts" "error" C_BadCuts := ⟨PySem.W.mg_of X G aC_BadCuts, O_BadCuts, ga_BadCuts, gg_BadCuts, no_BadCuts, hd_BadCuts, _, _, _, ai_BadCuts, ti_BadCuts, ok_BadCuts___init__ (PySem.W.mg_of X G aC_UnitError) ⟨br_UnitError, bg_UnitError, au_UnitError⟩ O_BadCuts no_BadCuts FI_BadCuts, bI_BadCuts⟩
  have x_NothingToUndo : XN K mg "NothingToUndo" C_NothingToUndo := ⟨PySem.W.mg_of X G aC_NothingToUndo, ev_NothingToUndo, kc_NothingToUndo, ex_NothingToUndo, ty_NothingToUndo⟩
  have x_NothingToRedo : XN K mg "NothingToRedo" C_NothingToRedo := ⟨PySem.W.mg_of X G aC_NothingToRedo, ev_NothingToRedo, kc_NothingToRedo, ex_NothingToRedo, ty_NothingToRedo⟩
  have e_NothingToUndo_NothingToUndo := exm_of ex_NothingToUndo ic_NothingToUndo ty_NothingToUndo sb_NothingToUndo_NothingToUndo
  have e_NothingToRedo_NothingToUndo := exm_of ex_NothingToUndo ic_NothingToUndo ty_NothingToUndo sb_NothingToRedo_NothingToUndo
  have e_NothingToRedo_NothingToRedo := exm_of ex_NothingToRedo ic_NothingToRedo ty_NothingToRedo sb_NothingToRedo_NothingToRedo
  have e_NoCut_NoCut := exm_of ex_NoCut ic_NoCut ty_NoCut sb_NoCut_NoCut
  have e_BadCuts_NoCut := exm_of ex_NoCut ic_NoCut ty_NoCut sb_BadCuts_NoCut
  have e_BadCuts_BadCuts := exm_of ex_BadCuts ic_BadCuts ty_BadCuts sb_BadCuts_BadCuts
  have F__law_deck := fun_mk (st := s__law_deck) lx0 ccx0 kx0
  have b__law_deck := F__law_deck.binds (ps := ["_law_script"]) fun _ _ _ _ _ _ us hl => bnd1 hl fun _ => rfl
  have C__law_deck : Cal l.prog WW.w K mg base 1 "_law_deck" ["_law_script"] (spDeck K) := ⟨_, _, ok__law_deck T F__law_deck , PySem.W.mg_of X G ax0, F__law_deck.kp, b__law_deck⟩
  have F__law_draw := fun_mk (st := s__law_draw) lx1 ccx1 kx1
  have b__law_draw := F__law_draw.binds (ps := ["_law_deck_here", "_law_many"]) fun _ _ _ _ _ _ us hl => bnd2 hl fun _ _ => rfl
  have C__law_draw : Cal l.prog WW.w K mg base 1 "_law_draw" ["_law_deck_here", "_law_many"] (spD K 2 m__law_draw) := ⟨_, _, ok__law_draw T F__law_draw , PySem.W.mg_of X G ax1, F__law_draw.kp, b__law_draw⟩
  have F__law_kind := fun_mk (st := s__law_kind) lx2 ccx2 kx2
  have b__law_kind := F__law_kind.binds (ps := ["_law_deck_here", "_law_letters", "_law_most"]) fun _ _ _ _ _ _ us hl => bnd3 hl fun _ _ _ => rfl
  have C__law_kind : Cal l.prog WW.w K mg base 2 "_law_kind" ["_law_deck_here", "_law_letters", "_law_most"] (spD K 3 m__law_kind) := ⟨_, _, ok__law_kind T F__law_kind C__law_draw, PySem.W.mg_of X G ax2, F__law_kind.kp, b__law_kind⟩
  have F__law_one := fun_mk (st := s__law_one) lx3 ccx3 kx3
  have b__law_one := F__law_one.binds (ps := ["_law_deck_here", "_law_items"]) fun _ _ _ _ _ _ us hl => bnd2 hl fun _ _ => rfl
  have C__law_one : Cal l.prog WW.w K mg base 2 "_law_one" ["_law_deck_here", "_law_items"] (spD K 2 m__law_one) := ⟨_, _, ok__law_one T F__law_one C__law_draw, PySem.W.mg_of X G ax3, F__law_one.kp, b__law_one⟩
  have F__law_units := fun_mk (st := s__law_units) lx4 ccx4 kx4
  have b__law_units := F__law_units.binds (ps := ["_law_deck_here", "_law_letters"]) fun _ _ _ _ _ _ us hl => bnd2 hl fun _ _ => rfl
  have C__law_units : Cal l.prog WW.w K mg base 3 "_law_units" ["_law_deck_here", "_law_letters"] (spD K 2 m__law_units) := ⟨_, _, ok__law_units T F__law_units C__law_draw C__law_one, PySem.W.mg_of X G ax4, F__law_units.kp, b__law_units⟩
  have F__law_cut := fun_mk (st := s__law_cut) lx5 ccx5 kx5
  have b__law_cut := F__law_cut.binds (ps := ["_law_deck_here", "_law_letters", "_law_units_here", "_law_most"]) fun _ _ _ _ _ _ us hl => bnd4 hl fun _ _ _ _ => rfl
  have C__law_cut : Cal l.prog WW.w K mg base 2 "_law_cut" ["_law_deck_here", "_law_letters", "_law_units_here", "_law_most"] (spD K 4 m__law_cut) := ⟨_, _, ok__law_cut T F__law_cut C__law_draw, PySem.W.mg_of X G ax5, F__law_cut.kp, b__law_cut⟩
  have F__law_scheme := fun_mk (st := s__law_scheme) lx6 ccx6 kx6
  have b__law_scheme := F__law_scheme.binds (ps := ["_law_deck_here", "_law_states", "_law_most"]) fun _ _ _ _ _ _ us hl => bnd3 hl fun _ _ _ => rfl
  have C__law_scheme : Cal l.prog WW.w K mg base 4 "_law_scheme" ["_law_deck_here", "_law_states", "_law_most"] (spD K 3 m__law_scheme) := ⟨_, _, ok__law_scheme T F__law_scheme C__law_draw C__law_kind C__law_units C__law_cut, PySem.W.mg_of X G ax6, F__law_scheme.kp, b__law_scheme⟩
  have F_is_integer_words := fun_mk (st := s_is_integer_words) lx7 ccx7 kx7
  have b_is_integer_words := F_is_integer_words.binds (ps := ["value", "least", "most"]) fun _ _ _ _ _ _ us hl => bnd3 hl fun _ _ _ => rfl
  have C_is_integer_words : Cal l.prog WW.w K mg base 1 "is_integer_words" ["value", "least", "most"] (spD K 3 m_is_integer_words) := ⟨_, _, ok_is_integer_words T F_is_integer_words , PySem.W.mg_of X G ax7, F_is_integer_words.kp, b_is_integer_words⟩
  have F_is_row := fun_mk (st := s_is_row) lx8 ccx8 kx8
  have b_is_row := F_is_row.binds (ps := ["value", "letters", "many"]) fun _ _ _ _ _ _ us hl => bnd3 hl fun _ _ _ => rfl
  have C_is_row : Cal l.prog WW.w K mg base 2 "is_row" ["value", "letters", "many"] (spD K 3 m_is_row) := ⟨_, _, ok_is_row T F_is_row C_is_integer_words, PySem.W.mg_of X G ax8, F_is_row.kp, b_is_row⟩
  have F_are_rows := fun_mk (st := s_are_rows) lx9 ccx9 kx9
  have b_are_rows := F_are_rows.binds (ps := ["value", "letters"]) fun _ _ _ _ _ _ us hl => bnd2 hl fun _ _ => rfl
  have C_are_rows : Cal l.prog WW.w K mg base 3 "are_rows" ["value", "letters"] (spD K 2 m_are_rows) := ⟨_, _, ok_are_rows T F_are_rows C_is_row, PySem.W.mg_of X G ax9, F_are_rows.kp, b_are_rows⟩
  have F_are_ends := fun_mk (st := s_are_ends) lx10 ccx10 kx10
  have b_are_ends := F_are_ends.binds (ps := ["value", "many"]) fun _ _ _ _ _ _ us hl => bnd2 hl fun _ _ => rfl
  have C_are_ends : Cal l.prog WW.w K mg base 1 "are_ends" ["value", "many"] (spD K 2 m_are_ends) := ⟨_, _, ok_are_ends T F_are_ends , PySem.W.mg_of X G ax10, F_are_ends.kp, b_are_ends⟩
  have F_kind_error := fun_mk (st := s_kind_error) lx11 ccx11 kx11
  have b_kind_error := F_kind_error.binds (ps := ["value"]) fun _ _ _ _ _ _ us hl => bnd1 hl fun _ => rfl
  have C_kind_error : Cal l.prog WW.w K mg base 4 "kind_error" ["value"] (spD K 1 m_kind_error) := ⟨_, _, ok_kind_error T F_kind_error C_is_integer_words C_are_rows C_are_ends, PySem.W.mg_of X G ax11, F_kind_error.kp, b_kind_error⟩
  have F_is_integer_cuts := fun_mk (st := s_is_integer_cuts) lx12 ccx12 kx12
  have b_is_integer_cuts := F_is_integer_cuts.binds (ps := ["value", "least", "most"]) fun _ _ _ _ _ _ us hl => bnd3 hl fun _ _ _ => rfl
  have C_is_integer_cuts : Cal l.prog WW.w K mg base 1 "is_integer_cuts" ["value", "least", "most"] (spD K 3 m_is_integer_cuts) := ⟨_, _, ok_is_integer_cuts T F_is_integer_cuts , PySem.W.mg_of X G ax12, F_is_integer_cuts.kp, b_is_integer_cuts⟩
  have F_is_cut_limit := fun_mk (st := s_is_cut_limit) lx13 ccx13 kx13
  have b_is_cut_limit := F_is_cut_limit.binds (ps := ["units", "value"]) fun _ _ _ _ _ _ us hl => bnd2 hl fun _ _ => rfl
  have C_is_cut_limit : Cal l.prog WW.w K mg base 2 "is_cut_limit" ["units", "value"] (spD K 2 m_is_cut_limit) := ⟨_, _, ok_is_cut_limit T F_is_cut_limit C_is_integer_cuts, PySem.W.mg_of X G ax13, F_is_cut_limit.kp, b_is_cut_limit⟩
  have F_are_clinging := fun_mk (st := s_are_clinging) lx14 ccx14 kx14
  have b_are_clinging := F_are_clinging.binds (ps := ["letters", "value"]) fun _ _ _ _ _ _ us hl => bnd2 hl fun _ _ => rfl
  have C_are_clinging : Cal l.prog WW.w K mg base 1 "are_clinging" ["letters", "value"] (spD K 2 m_are_clinging) := ⟨_, _, ok_are_clinging T F_are_clinging , PySem.W.mg_of X G ax14, F_are_clinging.kp, b_are_clinging⟩
  have F_is_cut := fun_mk (st := s_is_cut) lx15 ccx15 kx15
  have b_is_cut := F_is_cut.binds (ps := ["letters", "units", "value"]) fun _ _ _ _ _ _ us hl => bnd3 hl fun _ _ _ => rfl
  have C_is_cut : Cal l.prog WW.w K mg base 3 "is_cut" ["letters", "units", "value"] (spD K 3 m_is_cut) := ⟨_, _, ok_is_cut T F_is_cut C_is_cut_limit C_are_clinging, PySem.W.mg_of X G ax15, F_is_cut.kp, b_is_cut⟩
  have F_cuts_error := fun_mk (st := s_cuts_error) lx16 ccx16 kx16
  have b_cuts_error := F_cuts_error.binds (ps := ["letters", "units", "value"]) fun _ _ _ _ _ _ us hl => bnd3 hl fun _ _ _ => rfl
  have C_cuts_error : Cal l.prog WW.w K mg base 4 "cuts_error" ["letters", "units", "value"] (spD K 3 m_cuts_error) := ⟨_, _, ok_cuts_error T F_cuts_error C_is_cut, PySem.W.mg_of X G ax16, F_cuts_error.kp, b_cuts_error⟩
  have F_is_unit := fun_mk (st := s_is_unit) lx17 ccx17 kx17
  have b_is_unit := F_is_unit.binds (ps := ["letters", "value"]) fun _ _ _ _ _ _ us hl => bnd2 hl fun _ _ => rfl
  have C_is_unit : Cal l.prog WW.w K mg base 2 "is_unit" ["letters", "value"] (spD K 2 m_is_unit) := ⟨_, _, ok_is_unit T F_is_unit C_is_integer_cuts, PySem.W.mg_of X G ax17, F_is_unit.kp, b_is_unit⟩
  have F_are_units := fun_mk (st := s_are_units) lx18 ccx18 kx18
  have b_are_units := F_are_units.binds (ps := ["letters", "value"]) fun _ _ _ _ _ _ us hl => bnd2 hl fun _ _ => rfl
  have C_are_units : Cal l.prog WW.w K mg base 3 "are_units" ["letters", "value"] (spD K 2 m_are_units) := ⟨_, _, ok_are_units T F_are_units C_is_unit, PySem.W.mg_of X G ax18, F_are_units.kp, b_are_units⟩
  have F_scheme_error := fun_mk (st := s_scheme_error) lx19 ccx19 kx19
  have b_scheme_error := F_scheme_error.binds (ps := ["value"]) fun _ _ _ _ _ _ us hl => bnd1 hl fun _ => rfl
  have C_scheme_error : Cal l.prog WW.w K mg base 5 "scheme_error" ["value"] (spD K 1 m_scheme_error) := ⟨_, _, ok_scheme_error T F_scheme_error C_kind_error C_are_units C_cuts_error, PySem.W.mg_of X G ax19, F_scheme_error.kp, b_scheme_error⟩
  have F_need_scheme := fun_mk (st := s_need_scheme) lx20 ccx20 kx20
  have b_need_scheme := F_need_scheme.binds (ps := ["value"]) fun _ _ _ _ _ _ us hl => bnd1 hl fun _ => rfl
  have C_need_scheme : Cal l.prog WW.w K mg base 6 "need_scheme" ["value"] (spD K 1 m_need_scheme) := ⟨_, _, ok_need_scheme T F_need_scheme C_scheme_error, PySem.W.mg_of X G ax20, F_need_scheme.kp, b_need_scheme⟩
  have F_Bench___init__ := funV_mk (st := s_Bench___init__) lx21 ccx21 kx21 (its := [d0_x21]) dl_x21 rfl
  have b_Bench___init__ := F_Bench___init__.binds (ps := ["self", "kind", "units", "cuts"]) fun _ _ _ _ _ _ _ us its hl h2 => match us, hl, its, h2 with | [_, _, _, _], _, [_], _ => ⟨_, rfl, rfl⟩
  have C_Bench___init__ : CalK l.prog WW.w K mg base 7 "Bench" ["self", "kind", "units", "cuts"] (spD K 4 m_Bench___init__) := calK_mk aC_Bench (PySem.W.mg_of X G aC_Bench) (ok_Bench___init__ T F_Bench___init__ C_need_scheme) ⟨mk_Bench, ax21, ix21, kc_Bench⟩ b_Bench___init__
  have F__law_index := fun_mk (st := s__law_index) lx22 ccx22 kx22
  have b__law_index := F__law_index.binds (ps := ["_law_deck_here", "_law_many"]) fun _ _ _ _ _ _ us hl => bnd2 hl fun _ _ => rfl
  have C__law_index : Cal l.prog WW.w K mg base 3 "_law_index" ["_law_deck_here", "_law_many"] (spD K 2 m__law_index) := ⟨_, _, ok__law_index T F__law_index C__law_draw C__law_one, PySem.W.mg_of X G ax22, F__law_index.kp, b__law_index⟩
  have F__law_some := fun_mk (st := s__law_some) lx23 ccx23 kx23
  have b__law_some := F__law_some.binds (ps := ["_law_deck_here", "_law_shape"]) fun _ _ _ _ _ _ us hl => bnd2 hl fun _ _ => rfl
  have C__law_some : Cal l.prog WW.w K mg base 3 "_law_some" ["_law_deck_here", "_law_shape"] (spD K 2 m__law_some) := ⟨_, _, ok__law_some T F__law_some C__law_draw C__law_one C__law_cut, PySem.W.mg_of X G ax23, F__law_some.kp, b__law_some⟩
  have F__law_edit := fun_mk (st := s__law_edit) lx24 ccx24 kx24
  have b__law_edit := F__law_edit.binds (ps := ["_law_deck_here", "_law_shape", "_law_cuts"]) fun _ _ _ _ _ _ us hl => bnd3 hl fun _ _ _ => rfl
  have C__law_edit : Cal l.prog WW.w K mg base 4 "_law_edit" ["_law_deck_here", "_law_shape", "_law_cuts"] (spD K 3 m__law_edit) := ⟨_, _, ok__law_edit T F__law_edit C__law_one C__law_some C__law_index, PySem.W.mg_of X G ax24, F__law_edit.kp, b__law_edit⟩
  have F__law_is_number := fun_mk (st := s__law_is_number) lx25 ccx25 kx25
  have b__law_is_number := F__law_is_number.binds (ps := ["_law_value", "_law_least", "_law_most"]) fun _ _ _ _ _ _ us hl => bnd3 hl fun _ _ _ => rfl
  have C__law_is_number : Cal l.prog WW.w K mg base 1 "_law_is_number" ["_law_value", "_law_least", "_law_most"] (spD K 3 m__law_is_number) := ⟨_, _, ok__law_is_number T F__law_is_number , PySem.W.mg_of X G ax25, F__law_is_number.kp, b__law_is_number⟩
  have F__law_backed := fun_mk (st := s__law_backed) lx26 ccx26 kx26
  have b__law_backed := F__law_backed.binds (ps := ["_law_steps", "_law_undone", "_law_way"]) fun _ _ _ _ _ _ us hl => bnd3 hl fun _ _ _ => rfl
  have C__law_backed : Cal l.prog WW.w K mg base 1 "_law_backed" ["_law_steps", "_law_undone", "_law_way"] (spD K 3 m__law_backed) := ⟨_, _, ok__law_backed T F__law_backed , PySem.W.mg_of X G ax26, F__law_backed.kp, b__law_backed⟩
  have F_Bench_idle := fun_mk (st := s_Bench_idle) lx27 ccx27 kx27
  have b_Bench_idle := F_Bench_idle.binds (ps := ["self"]) fun _ _ _ _ _ _ us hl => bnd1 hl fun _ => rfl
  have C_Bench_idle : CalM l.prog WW.w K mg base 1 "Bench" "idle" ["self"] (spD K 1 m_Bench_idle) := calM_mk aC_Bench ⟨pg_Bench, hd_Bench, po_Bench, sa_Bench⟩ (ok_Bench_idle T F_Bench_idle ) ⟨ax27, ix27, kx27⟩ b_Bench_idle
  have F_Bench_stand := fun_mk (st := s_Bench_stand) lx28 ccx28 kx28
  have b_Bench_stand := F_Bench_stand.binds (ps := ["self", "standing"]) fun _ _ _ _ _ _ us hl => bnd2 hl fun _ _ => rfl
  have C_Bench_stand : CalM l.prog WW.w K mg base 1 "Bench" "stand" ["self", "standing"] (spD K 2 m_Bench_stand) := calM_mk aC_Bench ⟨pg_Bench, hd_Bench, po_Bench, sa_Bench⟩ (ok_Bench_stand T F_Bench_stand ) ⟨ax28, ix28, kx28⟩ b_Bench_stand
  have F_Bench_undo := fun_mk (st := s_Bench_undo) lx29 ccx29 kx29
  have b_Bench_undo := F_Bench_undo.binds (ps := ["self"]) fun _ _ _ _ _ _ us hl => bnd1 hl fun _ => rfl
  have C_Bench_undo : CalMX l.prog WW.w K mg base 3 "Bench" "undo" ["self"] (spX K mg 1 m_Bench_undo) := calMX_mk aC_Bench ⟨pg_Bench, hd_Bench, po_Bench, sa_Bench⟩ (ok_Bench_undo T F_Bench_undo C_Bench_idle C_Bench_stand x_NothingToUndo) ⟨ax29, ix29, kx29⟩ b_Bench_undo
  have F_Bench_redo := fun_mk (st := s_Bench_redo) lx30 ccx30 kx30
  have b_Bench_redo := F_Bench_redo.binds (ps := ["self"]) fun _ _ _ _ _ _ us hl => bnd1 hl fun _ => rfl
  have C_Bench_redo : CalMX l.prog WW.w K mg base 3 "Bench" "redo" ["self"] (spX K mg 1 m_Bench_redo) := calMX_mk aC_Bench ⟨pg_Bench, hd_Bench, po_Bench, sa_Bench⟩ (ok_Bench_redo T F_Bench_redo C_Bench_idle C_Bench_stand x_NothingToRedo) ⟨ax30, ix30, kx30⟩ b_Bench_redo
  have F__law_back := fun_mk (st := s__law_back) lx31 ccx31 kx31
  have b__law_back := F__law_back.binds (ps := ["_law_bench", "_law_word"]) fun _ _ _ _ _ _ us hl => bnd2 hl fun _ _ => rfl
  have C__law_back : Cal l.prog WW.w K mg base 4 "_law_back" ["_law_bench", "_law_word"] (spD K 2 m__law_back) := ⟨_, _, ok__law_back T F__law_back C_Bench_undo C_Bench_redo x_NothingToUndo x_NothingToRedo e_NothingToUndo_NothingToUndo e_NothingToRedo_NothingToUndo e_NothingToRedo_NothingToRedo, PySem.W.mg_of X G ax31, F__law_back.kp, b__law_back⟩
  have F_is_whole := fun_mk (st := s_is_whole) lx32 ccx32 kx32
  have b_is_whole := F_is_whole.binds (ps := ["value", "least", "most"]) fun _ _ _ _ _ _ us hl => bnd3 hl fun _ _ _ => rfl
  have C_is_whole : Cal l.prog WW.w K mg base 1 "is_whole" ["value", "least", "most"] (spD K 3 m_is_whole) := ⟨_, _, ok_is_whole T F_is_whole , PySem.W.mg_of X G ax32, F_is_whole.kp, b_is_whole⟩
  have F_cut_at := fun_mk (st := s_cut_at) lx33 ccx33 kx33
  have b_cut_at := F_cut_at.binds (ps := ["cuts", "index"]) fun _ _ _ _ _ _ us hl => bnd2 hl fun _ _ => rfl
  have C_cut_at : CalX l.prog WW.w K mg base 3 "cut_at" ["cuts", "index"] (spX K mg 2 m_cut_at) := ⟨_, _, ok_cut_at T F_cut_at C_is_whole x_NoCut, PySem.W.mg_of X G ax33, F_cut_at.kp, b_cut_at⟩
  have F_Bench___getitem__ := fun_mk (st := s_Bench___getitem__) lx34 ccx34 kx34
  have b_Bench___getitem__ := F_Bench___getitem__.binds (ps := ["self", "index"]) fun _ _ _ _ _ _ us hl => bnd2 hl fun _ _ => rfl
  have C_Bench___getitem__ : CalOX l.prog WW.w K mg base 4 "Bench" "__getitem__" ["self", "index"] (spX K mg 2 m_Bench___getitem__) := calOX_mk aC_Bench (ok_Bench___getitem__ T F_Bench___getitem__ C_cut_at) ⟨ax34, ix34, kx34⟩ b_Bench___getitem__ fix34 nqx34 sfx34
  have F__law_got := fun_mk (st := s__law_got) lx35 ccx35 kx35
  have b__law_got := F__law_got.binds (ps := ["_law_bench", "_law_index_here"]) fun _ _ _ _ _ _ us hl => bnd2 hl fun _ _ => rfl
  have C__law_got : Cal l.prog WW.w K mg base 6 "_law_got" ["_law_bench", "_law_index_here"] (spD K 2 m__law_got) := ⟨_, _, ok__law_got T F__law_got C_Bench___getitem__ x_NoCut e_NoCut_NoCut, PySem.W.mg_of X G ax35, F__law_got.kp, b__law_got⟩
  have F__law_is_cut := fun_mk (st := s__law_is_cut) lx36 ccx36 kx36
  have b__law_is_cut := F__law_is_cut.binds (ps := ["_law_letters", "_law_units_here", "_law_value"]) fun _ _ _ _ _ _ us hl => bnd3 hl fun _ _ _ => rfl
  have C__law_is_cut : Cal l.prog WW.w K mg base 2 "_law_is_cut" ["_law_letters", "_law_units_here", "_law_value"] (spD K 3 m__law_is_cut) := ⟨_, _, ok__law_is_cut T F__law_is_cut C__law_is_number, PySem.W.mg_of X G ax36, F__law_is_cut.kp, b__law_is_cut⟩
  have F__law_cuts_error := fun_mk (st := s__law_cuts_error) lx37 ccx37 kx37
  have b__law_cuts_error := F__law_cuts_error.binds (ps := ["_law_letters", "_law_units_here", "_law_value"]) fun _ _ _ _ _ _ us hl => bnd3 hl fun _ _ _ => rfl
  have C__law_cuts_error : Cal l.prog WW.w K mg base 3 "_law_cuts_error" ["_law_letters", "_law_units_here", "_law_value"] (spD K 3 m__law_cuts_error) := ⟨_, _, ok__law_cuts_error T F__law_cuts_error C__law_is_cut, PySem.W.mg_of X G ax37, F__law_cuts_error.kp, b__law_cuts_error⟩
  have F__law_due := fun_mk (st := s__law_due) lx38 ccx38 kx38
  have b__law_due := F__law_due.binds (ps := ["_law_shape", "_law_cuts", "_law_edit_here"]) fun _ _ _ _ _ _ us hl => bnd3 hl fun _ _ _ => rfl
  have C__law_due : Cal l.prog WW.w K mg base 4 "_law_due" ["_law_shape", "_law_cuts", "_law_edit_here"] (spD K 3 m__law_due) := ⟨_, _, ok__law_due T F__law_due C__law_is_number C__law_cuts_error, PySem.W.mg_of X G ax38, F__law_due.kp, b__law_due⟩
  have F_Bench_ready := fun_mk (st := s_Bench_ready) lx39 ccx39 kx39
  have b_Bench_ready := F_Bench_ready.binds (ps := ["self"]) fun _ _ _ _ _ _ us hl => bnd1 hl fun _ => rfl
  have C_Bench_ready : CalM l.prog WW.w K mg base 2 "Bench" "ready" ["self"] (spD K 1 m_Bench_ready) := calM_mk aC_Bench ⟨pg_Bench, hd_Bench, po_Bench, sa_Bench⟩ (ok_Bench_ready T F_Bench_ready C_Bench_idle) ⟨ax39, ix39, kx39⟩ b_Bench_ready
  have F_Bench_judge := fun_mk (st := s_Bench_judge) lx40 ccx40 kx40
  have b_Bench_judge := F_Bench_judge.binds (ps := ["self", "cuts"]) fun _ _ _ _ _ _ us hl => bnd2 hl fun _ _ => rfl
  have C_Bench_judge : CalM l.prog WW.w K mg base 1 "Bench" "judge" ["self", "cuts"] (spD K 2 m_Bench_judge) := calM_mk aC_Bench ⟨pg_Bench, hd_Bench, po_Bench, sa_Bench⟩ (ok_Bench_judge T F_Bench_judge ) ⟨ax40, ix40, kx40⟩ b_Bench_judge
  have F_Bench_settle := fun_mk (st := s_Bench_settle) lx41 ccx41 kx41
  have b_Bench_settle := F_Bench_settle.binds (ps := ["self", "edit", "cuts"]) fun _ _ _ _ _ _ us hl => bnd3 hl fun _ _ _ => rfl
  have C_Bench_settle : CalM l.prog WW.w K mg base 2 "Bench" "settle" ["self", "edit", "cuts"] (spD K 3 m_Bench_settle) := calM_mk aC_Bench ⟨pg_Bench, hd_Bench, po_Bench, sa_Bench⟩ (ok_Bench_settle T F_Bench_settle C_Bench_judge C_Bench_stand) ⟨ax41, ix41, kx41⟩ b_Bench_settle
  have F_need_cuts := fun_mk (st := s_need_cuts) lx42 ccx42 kx42
  have b_need_cuts := F_need_cuts.binds (ps := ["letters", "units", "value"]) fun _ _ _ _ _ _ us hl => bnd3 hl fun _ _ _ => rfl
  have C_need_cuts : CalX l.prog WW.w K mg base 5 "need_cuts" ["letters", "units", "value"] (spX K mg 3 m_need_cuts) := ⟨_, _, ok_need_cuts T F_need_cuts C_cuts_error x_BadCuts, PySem.W.mg_of X G ax42, F_need_cuts.kp, b_need_cuts⟩
  have F_lifted := fun_mk (st := s_lifted) lx43 ccx43 kx43
  have b_lifted := F_lifted.binds (ps := ["cuts", "index"]) fun _ _ _ _ _ _ us hl => bnd2 hl fun _ _ => rfl
  have C_lifted : Cal l.prog WW.w K mg base 1 "lifted" ["cuts", "index"] (spD K 2 m_lifted) := ⟨_, _, ok_lifted T F_lifted , PySem.W.mg_of X G ax43, F_lifted.kp, b_lifted⟩
  have F_edited := fun_mk (st := s_edited) lx44 ccx44 kx44
  have b_edited := F_edited.binds (ps := ["letters", "units", "cuts", "edit"]) fun _ _ _ _ _ _ us hl => bnd4 hl fun _ _ _ _ => rfl
  have C_edited : CalX l.prog WW.w K mg base 6 "edited" ["letters", "units", "cuts", "edit"] (spX K mg 4 m_edited) := ⟨_, _, ok_edited T F_edited C_need_cuts C_cut_at C_lifted, PySem.W.mg_of X G ax44, F_edited.kp, b_edited⟩
  have F_Bench_do := fun_mk (st := s_Bench_do) lx45 ccx45 kx45
  have b_Bench_do := F_Bench_do.binds (ps := ["self", "edit"]) fun _ _ _ _ _ _ us hl => bnd2 hl fun _ _ => rfl
  have C_Bench_do : CalMX l.prog WW.w K mg base 7 "Bench" "do" ["self", "edit"] (spX K mg 2 m_Bench_do) := calMX_mk aC_Bench ⟨pg_Bench, hd_Bench, po_Bench, sa_Bench⟩ (ok_Bench_do T F_Bench_do C_Bench_ready C_edited C_Bench_settle) ⟨ax45, ix45, kx45⟩ b_Bench_do
  have F_Bench_add := fun_mk (st := s_Bench_add) lx46 ccx46 kx46
  have b_Bench_add := F_Bench_add.binds (ps := ["self", "cut"]) fun _ _ _ _ _ _ us hl => bnd2 hl fun _ _ => rfl
  have C_Bench_add : CalMX l.prog WW.w K mg base 8 "Bench" "add" ["self", "cut"] (spX K mg 2 m_Bench_add) := calMX_mk aC_Bench ⟨pg_Bench, hd_Bench, po_Bench, sa_Bench⟩ (ok_Bench_add T F_Bench_add C_Bench_do) ⟨ax46, ix46, kx46⟩ b_Bench_add
  have F_Bench___iadd__ := fun_mk (st := s_Bench___iadd__) lx47 ccx47 kx47
  have b_Bench___iadd__ := F_Bench___iadd__.binds (ps := ["self", "cut"]) fun _ _ _ _ _ _ us hl => bnd2 hl fun _ _ => rfl
  have C_Bench___iadd__ : CalOX l.prog WW.w K mg base 9 "Bench" (dunderI (Operator.info .Add).2) ["self", "cut"] (spX K mg 2 m_Bench___iadd__) := calOX_mk aC_Bench (ok_Bench___iadd__ T F_Bench___iadd__ C_Bench_add) ⟨ax47, ix47, kx47⟩ b_Bench___iadd__ fix47 nqx47 sfx47
  have F_Bench_drop := fun_mk (st := s_Bench_drop) lx48 ccx48 kx48
  have b_Bench_drop := F_Bench_drop.binds (ps := ["self", "index"]) fun _ _ _ _ _ _ us hl => bnd2 hl fun _ _ => rfl
  have C_Bench_drop : CalMX l.prog WW.w K mg base 8 "Bench" "drop" ["self", "index"] (spX K mg 2 m_Bench_drop) := calMX_mk aC_Bench ⟨pg_Bench, hd_Bench, po_Bench, sa_Bench⟩ (ok_Bench_drop T F_Bench_drop C_Bench_do) ⟨ax48, ix48, kx48⟩ b_Bench_drop
  have F_Bench___isub__ := fun_mk (st := s_Bench___isub__) lx49 ccx49 kx49
  have b_Bench___isub__ := F_Bench___isub__.binds (ps := ["self", "index"]) fun _ _ _ _ _ _ us hl => bnd2 hl fun _ _ => rfl
  have C_Bench___isub__ : CalOX l.prog WW.w K mg base 9 "Bench" (dunderI (Operator.info .Sub).2) ["self", "index"] (spX K mg 2 m_Bench___isub__) := calOX_mk aC_Bench (ok_Bench___isub__ T F_Bench___isub__ C_Bench_drop) ⟨ax49, ix49, kx49⟩ b_Bench___isub__ fix49 nqx49 sfx49
  have F_Bench___len__ := fun_mk (st := s_Bench___len__) lx50 ccx50 kx50
  have b_Bench___len__ := F_Bench___len__.binds (ps := ["self"]) fun _ _ _ _ _ _ us hl => bnd1 hl fun _ => rfl
  have C_Bench___len__ : CalM l.prog WW.w K mg base 1 "Bench" "__len__" ["self"] (spD K 1 m_Bench___len__) := calM_mk aC_Bench ⟨pg_Bench, hd_Bench, po_Bench, sa_Bench⟩ (ok_Bench___len__ T F_Bench___len__ ) ⟨ax50, ix50, kx50⟩ b_Bench___len__
  have F_Bench_change := fun_mk (st := s_Bench_change) lx51 ccx51 kx51
  have b_Bench_change := F_Bench_change.binds (ps := ["self", "index", "cut"]) fun _ _ _ _ _ _ us hl => bnd3 hl fun _ _ _ => rfl
  have C_Bench_change : CalMX l.prog WW.w K mg base 8 "Bench" "change" ["self", "index", "cut"] (spX K mg 3 m_Bench_change) := calMX_mk aC_Bench ⟨pg_Bench, hd_Bench, po_Bench, sa_Bench⟩ (ok_Bench_change T F_Bench_change C_Bench_do) ⟨ax51, ix51, kx51⟩ b_Bench_change
  have F_Bench___setitem__ := fun_mk (st := s_Bench___setitem__) lx52 ccx52 kx52
  have b_Bench___setitem__ := F_Bench___setitem__.binds (ps := ["self", "index", "cut"]) fun _ _ _ _ _ _ us hl => bnd3 hl fun _ _ _ => rfl
  have C_Bench___setitem__ : CalOX l.prog WW.w K mg base 9 "Bench" "__setitem__" ["self", "index", "cut"] (spX K mg 3 m_Bench___setitem__) := calOX_mk aC_Bench (ok_Bench___setitem__ T F_Bench___setitem__ C_Bench_change) ⟨ax52, ix52, kx52⟩ b_Bench___setitem__ fix52 nqx52 sfx52
  have F__law_by_item := fun_mk (st := s__law_by_item) lx53 ccx53 kx53
  have b__law_by_item := F__law_by_item.binds (ps := ["_law_bench", "_law_edit_here"]) fun _ _ _ _ _ _ us hl => bnd2 hl fun _ _ => rfl
  have C__law_by_item : Cal l.prog WW.w K mg base 10 "_law_by_item" ["_law_bench", "_law_edit_here"] (spD K 2 m__law_by_item) := ⟨_, _, ok__law_by_item T F__law_by_item C_Bench___iadd__ C_Bench___isub__ C_Bench___setitem__ C_Bench___len__ C_Bench_undo C_Bench_redo x_NoCut x_BadCuts e_NoCut_NoCut e_BadCuts_NoCut e_BadCuts_BadCuts, PySem.W.mg_of X G ax53, F__law_by_item.kp, b__law_by_item⟩
  have F_Bench_state := funN_mk (st := s_Bench_state) lx54 ccx54 kx54 (kn := ["version"]) (List.forall_mem_cons.mpr ⟨kw0x54, fun _ h => nomatch h⟩)
  have C_Bench_state : CalMN l.prog WW.w K mg base 2 "Bench" "state" ["self", "version"] 1 (spD K 2 m_Bench_state) := calMN_mk aC_Bench ⟨pg_Bench, hd_Bench, po_Bench, sa_Bench⟩ (ok_Bench_state T F_Bench_state C_is_whole) ⟨ax54, ix54, kx54⟩ (FunN.binds1 F_Bench_state rfl fun _ _ _ _ _ _ _ _ => ⟨_, _, _, _, _, _, rfl, rfl, rfl⟩)
  have F_Bench_edits := fun_mk (st := s_Bench_edits) lx55 ccx55 kx55
  have b_Bench_edits := F_Bench_edits.binds (ps := ["self"]) fun _ _ _ _ _ _ us hl => bnd1 hl fun _ => rfl
  have C_Bench_edits : CalM l.prog WW.w K mg base 1 "Bench" "edits" ["self"] (spD K 1 m_Bench_edits) := calM_mk aC_Bench ⟨pg_Bench, hd_Bench, po_Bench, sa_Bench⟩ (ok_Bench_edits T F_Bench_edits ) ⟨ax55, ix55, kx55⟩ b_Bench_edits
  have F_law := fun_mk (st := s_law) lx56 ccx56 kx56
  exact ok_law T F_law C__law_deck C__law_scheme C_Bench___init__ C__law_index C__law_is_number C__law_got C__law_edit C__law_draw C__law_backed C__law_back C__law_due C__law_by_item C_Bench_state C_Bench_edits hb
end Lw
set_option Elab.async false
set_option linter.all false
set_option maxRecDepth 100000
set_option maxHeartbeats 1000000
namespace MD
open PySem L2
variable {ww : WW}
noncomputable def grd {α : Type} (n : Nat) (o : Option α) : Option α := cif (n ≤ sizeLine) o
theorem grd_eq {α : Type} (n : Nat) (o : Option α) : (if n ≤ sizeLine then o else none) = grd n o := cif_eq _ _
theorem grd_lt {α : Type} (n : Nat) (o : Option α) : (if n < sizeLine then o else none) = grd (n + 1) o := cif_eq _ _
theorem grd_of {α : Type} {n : Nat} {o : Option α} (h : n ≤ 1000000) : grd n o = o := if_pos (Nat.le_trans h (by decide))
noncomputable def rng1 : List D → Option (List D)
  | [.int j] => cif (-(2 ^ 62) ≤ j ∧ j < 2 ^ 62) (some (rngD 0 j.toNat))
  | _ => none
noncomputable def rng2 : List D → Option (List D)
  | [.int i, .int j] => cif (-(2 ^ 62) ≤ i ∧ i < 2 ^ 62 ∧ -(2 ^ 62) ≤ j ∧ j < 2 ^ 62) (some (rngD i (j - i).toNat))
  | _ => none
theorem rng1_of {j : Int} (h0 : -1000000 ≤ j) (h1 : j ≤ 1000000) : rng1 [.int j] = some (rngD 0 j.toNat) := cif_of ⟨by omega, by omega⟩
theorem rngD_len (lo : Int) (n : Nat) : (rngD lo n).length = n := by unfold rngD; simp
@[simp] theorem dr_non (st : S) : dr st .non = .non := (rfl)
@[simp] theorem dr_bl (st : S) (b : Bool) : dr st (.bl b) = .bl b := (rfl)
@[simp] theorem dr_int (st : S) (i : Int) : dr st (.int i) = .int i := (rfl)
@[simp] theorem dr_str (st : S) (x : Str) : dr st (.str x) = .str x := (rfl)
@[simp] theorem dr_lst (st : S) (ds : List D) : dr st (.lst ds) = .lst ds := (rfl)
@[simp] theorem dr_tup (st : S) (ds : List D) : dr st (.tup ds) = .tup ds := (rfl)
@[simp] theorem dr_deck (st : S) : dr st .deck = .deck := (rfl)
@[simp] theorem dr_dic (st : S) (ks : List L2.Key) (ds : List D) : dr st (.dic ks ds) = .dic ks ds := (rfl)
theorem dr_ref (st : S) (n : Nat) : dr st (.ref n) = match st.ob[n]? with | some (.lst ds) => .lst ds | some (.dic _ ks ds) => .dic ks ds | _ => .ref n := (rfl)
theorem dr_of {st : S} {d : D} (h : ∀ n, d ≠ .ref n) : dr st d = d := by
  cases d with
  | ref n => exact absurd rfl (h n)
  | _ => rfl
@[simp] theorem nonD_dr (st : S) (d : D) : nonD (dr st d) = nonD d := by
  cases d with
  | ref n =>
    rw [dr_ref]
    split <;> rfl
  | _ => rfl
@[simp] theorem map_dr_nil (st : S) : List.map (dr st) [] = [] := rfl
section
variable {env : Sg} {st : S} {f h fa fb fc fe fo : ME} {c : MT} {a r : MA} {i j n : Nat} {d e : D} {ds es : List D}
@[simp] theorem v_frz : frz a env st = (a env st).map fun p => (D.lst p.1, p.2) := (rfl)
@[simp] theorem v_rd : rd i env st = (match env[i]? with | some (.val d) => some (d, st) | _ => none) := (rfl)
@[simp] theorem v_rdW : rdW i env st = (match env[i]? with | some (.val d) => some (d, st) | some (.own (.lst, ds)) => some (D.lst ds, st) | some (.own (.dic ks, ds)) => some (D.dic ks ds, st) | _ => none) := (rfl)
@[simp] theorem v_cst : cst d env st = some (d, st) := (rfl)
@[simp] theorem v_opM {g : D → D → Option D} : opM g fa fb env st = (fa env st).bind fun p => (fb env p.2).bind fun q => (g (dr q.2 p.1) (dr q.2 q.1)).map fun z => (z, q.2) := (rfl)
@[simp] theorem v_unM {g : D → Option D} : unM g fa env st = (fa env st).bind fun p => (g p.1).map fun z => (z, p.2) := (rfl)
@[simp] theorem v_slM {g : D → Option Int → Option Int → Option D} {fl fh : MO} : slM g fe fl fh env st = (fe env st).bind fun p => (fl env p.2).bind fun l => (fh env l.2).bind fun u => (g (dr u.2 p.1) l.1 u.1).map fun z => (z, u.2) := (rfl)
@[simp] theorem v_noP : noP env st = some (none, st) := (rfl)
@[simp] theorem v_prt : prt f env st = (f env st).bind fun p => (intOf p.1).map fun i => (some i, p.2) := (rfl)
@[simp] theorem v_aNil : aNil env st = some ([], st) := (rfl)
@[simp] theorem v_aCons : aCons f r env st = (f env st).bind fun p => (r env p.2).map fun q => (p.1 :: q.1, q.2) := (rfl)
@[simp] theorem v_tupM : tupM a env st = (a env st).bind fun p => grd p.1.length (some (D.tup p.1, p.2)) := by
  unfold tupM; simp only [grd_eq]
@[simp] theorem v_lstM : lstM a env st = (a env st).bind fun p => grd p.1.length (some p) := by
  unfold lstM; simp only [grd_eq]
@[simp] theorem v_cbM {g : List D → Option D} : cbM g a env st = (a env st).bind fun p => (g (p.1.map (dr p.2))).map fun z => (z, p.2) := (rfl)
@[simp] theorem v_m1M {g : D → List D → Option D} : m1M g fo fe env st = (fo env st).bind fun p => if isStrD p.1 then (fe env p.2).bind fun q => (g p.1 [dr q.2 q.1]).map fun z => (z, q.2) else none := (rfl)
@[simp] theorem v_bmL {g : D → List D → Option D} : bmL g fo a env st = (fo env st).bind fun p => if isLstD (dr p.2 p.1) then (a env p.2).bind fun q => (g (dr q.2 p.1) (q.1.map (dr q.2))).map fun z => (z, q.2) else none := (rfl)
@[simp] theorem v_tstM : tstM f env st = (f env st).bind fun p => (blOf p.1).map fun b => (b, p.2) := (rfl)
@[simp] theorem v_truM : truM f env st = (f env st).bind fun p => (truD (dr p.2 p.1)).map fun b => (b, p.2) := (rfl)
@[simp] theorem v_andM {c' : MT} : andM c c' env st = (c env st).bind fun p => if p.1 then c' env p.2 else some (false, p.2) := (rfl)
@[simp] theorem v_orM {c' : MT} : orM c c' env st = (c env st).bind fun p => if p.1 then some (true, p.2) else c' env p.2 := (rfl)
@[simp] theorem v_notM : notM c env st = (c env st).map fun p => (!p.1, p.2) := (rfl)
@[simp] theorem v_andV : andV f h env st = (f env st).bind fun p => (blOf p.1).bind fun b => if b then h env p.2 else some (D.bl false, p.2) := (rfl)
@[simp] theorem v_orV : orV f h env st = (f env st).bind fun p => (blOf p.1).bind fun b => if b then some (D.bl true, p.2) else h env p.2 := (rfl)
@[simp] theorem v_notV : notV f env st = (f env st).bind fun p => (blOf p.1).map fun b => (D.bl (!b), p.2) := (rfl)
@[simp] theorem v_ifM : ifM c f h env st = (c env st).bind fun p => if p.1 then f env p.2 else h env p.2 := (rfl)
@[simp] theorem v_chM {g g' : D → D → Option D} : chM g g' fa fb fc env st = (fa env st).bind fun p => (fb env p.2).bind fun q => (g p.1 q.1).bind fun z => (blOf z).bind fun b =>
  if b then (fc env q.2).bind fun r => (g' q.1 r.1).map fun z => (z, r.2) else some (D.bl false, q.2) := (rfl)
@[simp] theorem v_nxM : nxM env st = some (.nx env, st) := (rfl)
@[simp] theorem v_seqM {p q : MS} : seqM p q env st = (p env st).bind fun x => match x.1 with | .nx e => q e x.2 | fl => some (fl, x.2) := (rfl)
@[simp] theorem v_retM : retM f env st = (f env st).map fun p => (.rt p.1, p.2) := (rfl)
@[simp] theorem v_retN : retN env st = some (.rt .non, st) := (rfl)
@[simp] theorem v_ifS {p q : MS} : ifS c p q env st = (c env st).bind fun x => if x.1 then p env x.2 else q env x.2 := (rfl)
@[simp] theorem v_dropM : dropM f env st = (f env st).map fun p => (.nx env, p.2) := (rfl)
@[simp] theorem v_nameT : nameT i d env = some (env.set i (.val d)) := (rfl)
@[simp] theorem v_nilT : nilT [] env = some env := (rfl)
@[simp] theorem v_consT {t : MG} {u : List D → Sg → Option Sg} : consT t u (d :: ds) env = (t d env).bind fun e => u ds e := (rfl)
@[simp] theorem v_tupT {u : List D → Sg → Option Sg} : tupT n u (.tup ds) env = if ds.length = n then u ds env else none := (rfl)
@[simp] theorem v_asgM {t : MG} : asgM t f env st = (f env st).bind fun p => (t p.1 env).map fun e => (.nx e, p.2) := (rfl)
@[simp] theorem v_ownM : ownM i a env st = (a env st).map fun p => (.nx (env.set i (.own (.lst, p.1))), p.2) := (rfl)
@[simp] theorem v_parM : parM i j a env st = (a env st).bind fun p => (two i j env p.1).map fun e => (.nx e, p.2) := (rfl)
@[simp] theorem v_two : two i j env [d, e] = some ((env.set i (.val d)).set j (.val e)) := (rfl)
@[simp] theorem v_augM {op : D → D → Option D} : augM i op f env st = (match env[i]? with | some (.val x) => (f env st).bind fun p => (op x p.1).map fun z => (.nx (env.set i (.val z)), p.2) | _ => none) := (rfl)
@[simp] theorem v_frzM {p : MS} : frzM i p env st = p (frzE i env) st := (rfl)
@[simp] theorem v_frzE : frzE i env = (match env[i]? with | some (.own (.lst, ds)) => env.set i (.val (.lst ds)) | some (.own (.dic ks, ds)) => env.set i (.val (.dic ks ds)) | _ => env) := (rfl)
@[simp] theorem v_appM : appM i f env st = (match env[i]? with | some (.own (.lst, ds)) => grd (ds.length + 1) ((f env st).map fun p => (.nx (env.set i (.own (.lst, ds ++ [p.1]))), p.2)) | _ => none) := by
  unfold appM; simp only [grd_lt] <;> rfl
@[simp] theorem v_extM : extM i f env st = (match env[i]? with | some (.own (.lst, ds)) => (f env st).bind fun p => (lstOf (dr p.2 p.1)).bind fun es => grd (ds.length + es.length) (some (.nx (env.set i (.own (.lst, ds ++ es))), p.2)) | _ => none) := by
  unfold extM; simp only [grd_eq] <;> rfl
@[simp] theorem v_yesM : yesM env st = some (true, st) := (rfl)
@[simp] theorem v_r1M : r1M a env st = (a env st).bind fun p => (rng1 p.1).map fun ds => (ds, p.2) := by
  unfold r1M
  congr 1
  funext p
  obtain ⟨l, s⟩ := p
  show (match l with | [.int j] => if -(2 ^ 62) ≤ j ∧ j < 2 ^ 62 then some (rngD 0 j.toNat, s) else none | _ => none) = (rng1 l).map fun ds => (ds, s)
  unfold rng1
  split
  · rw [cif_eq]; unfold cif; split <;> rfl
  · rfl
@[simp] theorem v_r2M : r2M a env st = (a env st).bind fun p => (rng2 p.1).map fun ds => (ds, p.2) := by
  unfold r2M
  congr 1
  funext p
  obtain ⟨l, s⟩ := p
  show (match l with | [.int i, .int j] => if -(2 ^ 62) ≤ i ∧ i < 2 ^ 62 ∧ -(2 ^ 62) ≤ j ∧ j < 2 ^ 62 then some (rngD i (j - i).toNat, s) else none | _ => none) = (rng2 l).map fun ds => (ds, s)
  unfold rng2
  split
  · rw [cif_eq]; unfold cif; split <;> rfl
  · rfl
@[simp] theorem v_seqI : seqI f env st = (f env st).bind fun p => (seqOf p.1).map fun ds => (ds, p.2) := (rfl)
@[simp] theorem v_enumI : enumI f env st = (f env st).bind fun p => (seqOf p.1).map fun ds => (enumD ds, p.2) := (rfl)
@[simp] theorem v_forM {it : MI} {t : MG} {b : MS} : forM it t b env st = (it env st).bind fun p => forL t b p.1 env p.2 := (rfl)
@[simp] theorem v_compM {it : MI} {t : MG} {vs : List Nat} : compM it t c f vs env st = (it env st).bind fun p => grd p.1.length (compL t c f (wipeE env vs) p.1 p.2) := by
  unfold compM; simp only [grd_eq]
@[simp] theorem v_callM {m : MF} : callM m a env st = (a env st).bind fun p => m p.1 p.2 := (rfl)
@[simp] theorem v_runM {b : MS} : runM n b ds st = (b (ds.map Sl.val ++ List.replicate (n - ds.length) Sl.un) st).bind fun p => match p.1 with | .rt d => some (d, p.2) | .nx _ => some (.non, p.2) | _ => none := (rfl)
@[simp] theorem v_wipe0 : wipeE env [] = env := (rfl)
@[simp] theorem v_wipe1 {v : Nat} {vs : List Nat} : wipeE env (v :: vs) = (wipeE env vs).set v .un := (rfl)
@[simp] theorem v_forL0 {t : MG} {b : MS} : forL t b [] env st = some (.nx env, st) := (rfl)
theorem v_forL {t : MG} {b : MS} : forL t b (d :: ds) env st = (t d env).bind fun env1 => (b env1 st).bind fun p => match p.1 with
    | .nx e => forL t b ds e p.2
    | .ct e => forL t b ds e p.2
    | .bk e => some (.nx e, p.2)
    | .rt r => some (.rt r, p.2) := (rfl)
@[simp] theorem v_compL0 {t : MG} : compL t c f env [] st = some ([], st) := (rfl)
theorem v_compL {t : MG} : compL t c f env (d :: ds) st = (t d env).bind fun e => (c e st).bind fun p => if p.1 then (f e p.2).bind fun q => (compL t c f env ds q.2).map fun r => (q.1 :: r.1, r.2) else compL t c f env ds p.2 := (rfl)
@[simp] theorem v_frzK {k : MK} : frzK k env st = (k env st).map fun p => (D.dic p.1.1 p.1.2, p.2) := (rfl)
@[simp] theorem v_ownK {k : MK} : ownK i k env st = (k env st).map fun p => (.nx (env.set i (.own (.dic p.1.1, p.1.2))), p.2) := (rfl)
@[simp] theorem v_newK : newK env st = some (([], []), st) := (rfl)
@[simp] theorem v_cpyK : cpyK f env st = (f env st).bind fun p => (isDicD (dr p.2 p.1)).map fun q => (q, p.2) := (rfl)
@[simp] theorem v_isDic {ks : List L2.Key} : isDicD (.dic ks ds) = some (ks, ds) := (rfl)
@[simp] theorem v_pCons {r : MP} : pCons f h r env st = (f env st).bind fun p => (keyOf p.1).bind fun k => (h env p.2).bind fun q => (r env q.2).map fun z => ((k, q.1) :: z.1, z.2) := (rfl)
@[simp] theorem v_dispK {r : MP} : dispK r env st = (r env st).bind fun p => if p.1.length ≤ 15 then some (mrgL [] [] p.1, p.2) else none := (rfl)
@[simp] theorem v_mrg1 {k : L2.Key} : mrgL [] [] [(k, d)] = ([k], [d]) := (rfl)
@[simp] theorem v_keyI {j : Int} : keyOf (.int j) = some (.inl j) := (rfl)
@[simp] theorem v_keyS {x : Str} : keyOf (.str x) = some (.inr x) := (rfl)
@[simp] theorem v_get1M : get1M f h env st = (f env st).bind fun p => (isDicD (dr p.2 p.1)).bind fun _ => (h env p.2).bind fun q => (isDicD (dr q.2 p.1)).bind fun z => (keyOf q.1).map fun k => ((getK z.1 z.2 k).getD .non, q.2) := (rfl)
@[simp] theorem v_get2M : get2M f h fa env st = (f env st).bind fun p => (isDicD (dr p.2 p.1)).bind fun _ => (h env p.2).bind fun q => (fa env q.2).bind fun r => (isDicD (dr r.2 p.1)).bind fun z => (keyOf q.1).map fun k => ((getK z.1 z.2 k).getD r.1, r.2) := (rfl)
@[simp] theorem v_dputM : dputM i f h env st = (match env[i]? with
  | some (.own (.dic ks, ds)) => (h env st).bind fun p => (f env p.2).bind fun q => (keyOf q.1).bind fun k => grd (ds.length + 1) (some (.nx (env.set i (.own (.dic (putKs ks k), putVs ks ds k p.1))), q.2))
  | _ => none) := by
  unfold dputM; simp only [grd_lt] <;> rfl
@[simp] theorem v_subD {ks : List L2.Key} : subD (.dic ks ds) d = (keyOf d).bind fun k => getK ks ds k := (rfl)
@[simp] theorem v_subL : subD (.lst ds) d = ixM (.lst ds) d := (rfl)
@[simp] theorem v_subT : subD (.tup ds) d = ixM (.tup ds) d := (rfl)
@[simp] theorem v_subS {x : Str} : subD (.str x) d = ixM (.str x) d := (rfl)
@[simp] theorem v_cntD {n : Bool} {ks : List L2.Key} : cntD n d (.dic ks ds) = (keyOf d).map fun k => .bl (if n then !(getK ks ds k).isSome else (getK ks ds k).isSome) := (rfl)
@[simp] theorem v_cntL {n : Bool} : cntD n d (.lst ds) = if n then notInM d (.lst ds) else inM d (.lst ds) := (rfl)
@[simp] theorem v_cntT {n : Bool} : cntD n d (.tup ds) = if n then notInM d (.tup ds) else inM d (.tup ds) := (rfl)
@[simp] theorem v_cntS {n : Bool} {x : Str} : cntD n d (.str x) = if n then notInM d (.str x) else inM d (.str x) := (rfl)
@[simp] theorem v_lenAD {ks : List L2.Key} : lenA [.dic ks ds] = some (.int ks.length) := (rfl)
@[simp] theorem v_lenAL : lenA [.lst ds] = some (.int ds.length) := (rfl)
@[simp] theorem v_lenAT : lenA [.tup ds] = some (.int ds.length) := (rfl)
@[simp] theorem v_lenAS {z : Str} : lenA [.str z] = grd z.length (some (.int z.length)) := by
  show lenM [.str z] = _
  show (if z.length ≤ sizeLine then some (D.int z.length) else none) = _
  rw [grd_eq]
@[simp] theorem v_stoL : stoL a env st = (a env st).map fun p => (D.ref p.2.ob.length, p.2.ad (.lst p.1)) := (rfl)
@[simp] theorem v_stoK {k : MK} : stoK k env st = (k env st).map fun p => (D.ref p.2.ob.length, p.2.ad (.dic false p.1.1 p.1.2)) := (rfl)
@[simp] theorem v_refOf {n : Nat} : refOf (.ref n) = some n := (rfl)
@[simp] theorem v_sappM : sappM f h env st = (f env st).bind fun o => (refOf o.1).bind fun n => (lstAt o.2 n).bind fun _ => (h env o.2).bind fun p => (lstAt p.2 n).bind fun ds => grd (ds.length + 1) (some (.nx env, p.2.put n (.lst (ds ++ [p.1])))) := by
  unfold sappM; simp only [grd_lt]
@[simp] theorem v_sputM : sputM f h fa env st = (fa env st).bind fun p => (f env p.2).bind fun o => (refOf o.1).bind fun n => (h env o.2).bind fun q => (keyOf q.1).bind fun k => (dicAt q.2 n).bind fun z => grd (z.2.length + 1) (some (.nx env, q.2.put n (.dic false (putKs z.1 k) (putVs z.1 z.2 k p.1)))) := by
  unfold sputM; simp only [grd_lt]
@[simp] theorem v_spopM : spopM f env st = (f env st).bind fun o => (refOf o.1).bind fun n => (lstAt o.2 n).bind fun ds => (ds[ds.length - 1]?).map fun d => (d, o.2.put n (.lst ds.dropLast)) := (rfl)
@[simp] theorem v_listM : listM a env st = (a env st).bind fun p => (listD (p.1.map (dr p.2))).map fun z => (z, p.2) := (rfl)
@[simp] theorem v_listDL : listD [.lst ds] = some ds := (rfl)
@[simp] theorem v_listDT : listD [.tup ds] = some ds := (rfl)
@[simp] theorem v_listDD {ks : List L2.Key} : listD [.dic ks ds] = some (ks.map keyD) := (rfl)
@[simp] theorem v_isiM {T : String} : isiM T f env st = (f env st).bind fun p => (tyD (dr p.2 p.1)).bind fun t => (kitB t T).map fun b => (D.bl b, p.2) := (rfl)
@[simp] theorem v_dcM {it : MI} {t : MG} {vs : List Nat} : dcM it t c f h vs env st = (it env st).bind fun p => grd p.1.length (dcL t c f h (wipeE env vs) p.1 ([], []) p.2) := by
  unfold dcM; simp only [grd_eq]
@[simp] theorem v_mulAI {x y : Int} : mulA (.int x) (.int y) = mulM (.int x) (.int y) := (rfl)
@[simp] theorem v_intOf {i : Int} : intOf (.int i) = some i := (rfl)
@[simp] theorem v_blOf {b : Bool} : blOf (.bl b) = some b := (rfl)
@[simp] theorem v_isStr {s : Str} : isStrD (.str s) = true := (rfl)
@[simp] theorem v_isLst : isLstD (.lst ds) = true := (rfl)
@[simp] theorem v_iI {g : Int → Int → D} {i j : Int} : iI g (.int i) (.int j) = some (g i j) := (rfl)
@[simp] theorem v_unI {g : Int → D} {i : Int} : unI g (.int i) = some (g i) := (rfl)
@[simp] theorem v_addI {i j : Int} : addM (.int i) (.int j) = some (.int (i + j)) := (rfl)
@[simp] theorem v_addS {i j : Str} : addM (.str i) (.str j) = grd (i.length + j.length) (some (.str (i ++ j))) := by
  rw [← grd_eq]; rfl
@[simp] theorem v_addT {i j : List D} : addM (.tup i) (.tup j) = grd (i.length + j.length) (some (.tup (i ++ j))) := by
  rw [← grd_eq]; rfl
@[simp] theorem v_addL {i j : List D} : addM (.lst i) (.lst j) = grd (i.length + j.length) (some (.lst (i ++ j))) := by
  rw [← grd_eq]; rfl
@[simp] theorem v_ixL {i : Int} : ixM (.lst ds) (.int i) = L2.atI ds i := (rfl)
@[simp] theorem v_ixT {i : Int} : ixM (.tup ds) (.int i) = L2.atI ds i := (rfl)
@[simp] theorem v_ixS {z : Str} {i : Int} : ixM (.str z) (.int i) = grd z.length ((L2.atI z.cps.toList i).map fun c => .str ⟨#[c]⟩) := by
  rw [← grd_eq]; rfl
@[simp] theorem v_lenS {z : Str} : lenM [.str z] = grd z.length (some (.int z.length)) := by
  rw [← grd_eq]; rfl
@[simp] theorem v_lenL : lenM [.lst ds] = some (.int ds.length) := (rfl)
@[simp] theorem v_lenT : lenM [.tup ds] = some (.int ds.length) := (rfl)
@[simp] theorem v_seqL : seqOf (.lst ds) = some ds := (rfl)
@[simp] theorem v_seqT : seqOf (.tup ds) = some ds := (rfl)
@[simp] theorem v_seqS {x : Str} : seqOf (.str x) = some ((signs x).map D.str) := (rfl)
@[simp] theorem v_tupleL : tupleM [.lst ds] = some (.tup ds) := (rfl)
@[simp] theorem v_tupleT : tupleM [.tup ds] = some (.tup ds) := (rfl)
@[simp] theorem v_tupleS {x : Str} : tupleM [.str x] = grd x.cps.size (some (.tup ((signs x).map D.str))) := by
  rw [← grd_eq]; rfl
@[simp] theorem v_slT {lo hi : Option Int} : slAny (.tup ds) lo hi = some (.tup (cutD ds lo hi)) := (rfl)
@[simp] theorem v_slS {z : Str} {lo hi : Option Int} : slAny (.str z) lo hi = grd z.length (some (.str (cutS z lo hi))) := by
  rw [← grd_eq]
  unfold slAny slTup slStr slLst
  by_cases h : z.length ≤ sizeLine <;> simp [h, Option.orElse]
@[simp] theorem v_slL {lo hi : Option Int} : slAny (.lst ds) lo hi = some (.lst (cutD ds lo hi)) := (rfl)
@[simp] theorem v_sumM : sumM [.lst ds] = (intsOf ds).map fun ns => .int ns.sum := (rfl)
@[simp] theorem v_maxM : maxM [.lst (d :: ds)] = (intsOf (d :: ds)).map fun ns => .int (topI ns) := (rfl)
@[simp] theorem v_minM : minM [.lst (d :: ds)] = (intsOf (d :: ds)).map fun ns => .int (botI ns) := (rfl)
@[simp] theorem v_int1 {i : Int} : int1M [.int i] = some (.int i) := (rfl)
@[simp] theorem v_lstOf : lstOf (.lst ds) = some ds := (rfl)
@[simp] theorem intsOf_map (ns : List Int) : intsOf (ns.map D.int) = some ns := by
  induction ns with
  | nil => rfl
  | cons x r ih => show (intsOf (r.map D.int)).map (x :: ·) = _; rw [ih]; rfl
@[simp] theorem strsOf_map (ns : List Str) : strsOf (ns.map D.str) = some ns := by
  induction ns with
  | nil => rfl
  | cons x r ih => show (strsOf (r.map D.str)).map (x :: ·) = _; rw [ih]; rfl
end
noncomputable def W (ws : List Nat) : Str := ⟨ws.toArray⟩
@[simp] theorem W_len (ws : List Nat) : (W ws).length = ws.length := by show ws.toArray.size = _; simp
@[simp] theorem W_size (ws : List Nat) : (W ws).cps.size = ws.length := by show ws.toArray.size = _; simp
@[simp] theorem W_list (ws : List Nat) : (W ws).cps.toList = ws := by show ws.toArray.toList = _; simp
theorem W_inj {a b : List Nat} (h : W a = W b) : a = b := by
  have := congrArg (fun s : Str => s.cps.toList) h
  simpa using this
@[simp] theorem W_signs (ws : List Nat) : signs (W ws) = ws.map fun c => W [c] := by
  unfold signs
  rw [W_list]
  rfl
theorem atI_of {α : Type} {xs : List α} {j : Nat} {x : α} (h : xs[j]? = some x) : L2.atI xs (j : Int) = some x := atI_nat h
theorem empty_W : ("" : Str) = W [] := by decide +kernel
@[simp] theorem eq_int (i j : Int) : eqM (.int i) (.int j) = some (.bl (decide (i = j))) := (rfl)
@[simp] theorem ne_int (i j : Int) : neM (.int i) (.int j) = some (.bl (!decide (i = j))) := (rfl)
@[simp] theorem eq_str (i j : Str) : eqM (.str i) (.str j) = some (.bl (decide (i = j))) := (rfl)
@[simp] theorem ne_str (i j : Str) : neM (.str i) (.str j) = some (.bl (!decide (i = j))) := (rfl)
@[simp] theorem is_non (d : D) : isM d .non = some (.bl (nonD d)) := (rfl)
@[simp] theorem isnot_non (d : D) : isNotM d .non = some (.bl (!nonD d)) := (rfl)
end MD
set_option Elab.async false
set_option linter.all false
set_option maxRecDepth 100000
set_option maxHeartbeats 1000000
namespace Lm
open PySem MD L2
theorem call_of {m : MF} {a : MA} {env : Sg} {st s1 s2 : S} {d : D} {ds : List D} (h1 : a env st = some (ds, s1)) (h2 : m ds s1 = some (d, s2)) : callM m a env st = some (d, s2) := by rw [v_callM, h1, Option.bind_some]; exact h2
theorem seq_nx {f h : MS} {env e : Sg} {st s1 : S} (hf : f env st = some (.nx e, s1)) : seqM f h env st = h e s1 := by rw [v_seqM, hf]; rfl
theorem seq_rt {f h : MS} {env : Sg} {st s1 : S} {d : D} (hf : f env st = some (.rt d, s1)) : seqM f h env st = some (.rt d, s1) := by rw [v_seqM, hf]; rfl
theorem par_nx {a : MA} {i j : Nat} {env : Sg} {st s1 : S} {d e : D} (hf : a env st = some ([d, e], s1)) : parM i j a env st = some (.nx ((env.set i (.val d)).set j (.val e)), s1) := by rw [v_parM, hf]; rfl
theorem cons_of {f : ME} {r : MA} {env : Sg} {st s1 s2 : S} {d : D} {ds : List D} (h1 : f env st = some (d, s1)) (h2 : r env s1 = some (ds, s2)) : aCons f r env st = some (d :: ds, s2) := by rw [v_aCons, h1, Option.bind_some, h2]; rfl
theorem ret_of {f : ME} {env : Sg} {st s1 : S} {d : D} (h : f env st = some (d, s1)) : retM f env st = some (.rt d, s1) := by rw [v_retM, h]; rfl
theorem run_of {n : Nat} {b : MS} {ds : List D} {st s1 : S} {d : D} (h : b (ds.map Sl.val ++ List.replicate (n - ds.length) Sl.un) st = some (.rt d, s1)) : runM n b ds st = some (d, s1) := by rw [v_runM, h]; rfl
theorem ifs_t {c : MT} {p q : MS} {env : Sg} {st s1 : S} {r : Option (Fl × S)} (hc : c env st = some (true, s1)) (hp : p env s1 = r) : ifS c p q env st = r := by rw [v_ifS, hc, Option.bind_some]; exact hp
theorem ifs_f {c : MT} {p q : MS} {env : Sg} {st s1 : S} {r : Option (Fl × S)} (hc : c env st = some (false, s1)) (hp : q env s1 = r) : ifS c p q env st = r := by rw [v_ifS, hc, Option.bind_some]; exact hp
theorem asg_nx {f : ME} {i : Nat} {env : Sg} {st s1 : S} {d : D} (hf : f env st = some (d, s1)) : asgM (nameT i) f env st = some (.nx (env.set i (.val d)), s1) := by rw [v_asgM, hf]; rfl
theorem own_nx {a : MA} {i : Nat} {env : Sg} {st s1 : S} {ds : List D} (hf : a env st = some (ds, s1)) : ownM i a env st = some (.nx (env.set i (.own (.lst, ds))), s1) := by rw [v_ownM, hf]; rfl
theorem tst_of {f : ME} {env : Sg} {st s1 : S} {b : Bool} (h : f env st = some (.bl b, s1)) : tstM f env st = some (b, s1) := by rw [v_tstM, h]; rfl
theorem add_tup {f h : ME} {env : Sg} {st s1 s2 : S} {xs ys : List D} (h1 : f env st = some (.tup xs, s1)) (h2 : h env s1 = some (.tup ys, s2)) (hl : xs.length + ys.length ≤ 1000000) : opM addM f h env st = some (.tup (xs ++ ys), s2) := by
  rw [v_opM, h1, Option.bind_some, h2, Option.bind_some, dr_tup, dr_tup, v_addT, grd_of hl]; rfl
theorem tup1 {f : ME} {env : Sg} {st s1 : S} {d : D} (h : f env st = some (d, s1)) : tupM (aCons f aNil) env st = some (.tup [d], s1) := by
  rw [v_tupM, cons_of h v_aNil, Option.bind_some]
  exact grd_of (show 1 ≤ 1000000 by decide)
theorem add_lst {f h : ME} {env : Sg} {st s1 s2 : S} {xs ys : List D} (h1 : f env st = some (.lst xs, s1)) (h2 : h env s1 = some (.lst ys, s2)) (hl : xs.length + ys.length ≤ 1000000) : opM addM f h env st = some (.lst (xs ++ ys), s2) := by
  rw [v_opM, h1, Option.bind_some, h2, Option.bind_some, dr_lst, dr_lst, v_addL, grd_of hl]; rfl
theorem lst_of {a : MA} {env : Sg} {st s1 : S} {ds : List D} (h : a env st = some (ds, s1)) (hl : ds.length ≤ 1000000) : frz (lstM a) env st = some (.lst ds, s1) := by
  rw [v_frz, v_lstM, h, Option.bind_some, grd_of hl]; rfl
section
variable {env : Sg} {st : S}
@[simp] theorem v_fldM {cs : List Str} {f : Str} {fo : ME} : fldM cs f fo env st = (fo env st).bind fun p => (refOf p.1).bind fun n => (insAt cs p.2 n).bind fun z => (lookF z.2.1 z.2.2 f).map fun d => (d, p.2) := (rfl)
@[simp] theorem v_setM {cs : List Str} {f : Str} {fo fv : ME} : setM cs f fo fv env st = (fv env st).bind fun p => (fo env p.2).bind fun o => (refOf o.1).bind fun n => (insAt cs o.2 n).bind fun z => if z.2.1.length < 1000 then some (.nx env, o.2.put n (.ins z.1 (putFN z.2.1 f) (putFV z.2.1 z.2.2 f p.1))) else none := (rfl)
@[simp] theorem v_revM {f : ME} : revM f env st = (f env st).bind fun p => match dr p.2 p.1 with | .lst ds => some (ds.reverse, p.2) | _ => none := (rfl)
theorem fld_of {c f : Str} {fo : ME} {s1 : S} {n : Nat} {fs : List Str} {xs : List D} {d : D} (h : fo env st = some (.ref n, s1)) (hn : s1.ob[n]? = some (.ins c fs xs)) (hl : lookF fs xs f = some d) : fldM [c] f fo env st = some (d, s1) := by
  rw [v_fldM, h]
  show (insAt [c] s1 n).bind _ = _
  unfold insAt
  rw [hn]
  simp [hl]
theorem set_of {c f : Str} {fo fv : ME} {s1 s2 : S} {n : Nat} {fs : List Str} {xs : List D} {d : D} (hv : fv env st = some (d, s1)) (h : fo env s1 = some (.ref n, s2)) (hn : s2.ob[n]? = some (.ins c fs xs)) (hl : fs.length < 1000) : setM [c] f fo fv env st = some (.nx env, s2.put n (.ins c (putFN fs f) (putFV fs xs f d))) := by
  rw [v_setM, hv]
  show (fo env s1).bind _ = _
  rw [h]
  show (insAt [c] s2 n).bind _ = _
  unfold insAt
  rw [hn]
  simp [hl]
theorem meth_of {c m : Str} {mf : MF} {fo : ME} {a : MA} {s1 s2 : S} {n : Nat} {fs : List Str} {xs ds : List D} {r : Option (D × S)} (h : fo env st = some (.ref n, s1)) (hn : s1.ob[n]? = some (.ins c fs xs)) (hm : m ∉ fs) (ha : a env s1 = some (ds, s2)) (hf : mf (.ref n :: ds) s2 = r) : methM c m mf fo a env st = r := by
  show ((fo env st).bind fun p => (refOf p.1).bind fun n => (insAt [c] p.2 n).bind fun z => if m ∉ z.2.1 then (a env p.2).bind fun q => mf (p.1 :: q.1) q.2 else none) = r
  rw [h]
  show (insAt [c] s1 n).bind _ = _
  unfold insAt
  rw [hn]
  simp [hm, ha, hf]
theorem make_of {c : Str} {mf : MF} {a : MA} {s1 s2 : S} {ds : List D} (ha : a env st = some (ds, s1)) (hf : mf (.ref s1.ob.length :: ds) (s1.ad (.ins c [] [])) = some (.non, s2)) : makeM c mf a env st = some (.ref s1.ob.length, s2) := by
  show ((a env st).bind fun p => (mf (.ref p.2.ob.length :: p.1) (p.2.ad (.ins c [] []))).bind fun q => match q.1 with | .non => some (D.ref p.2.ob.length, q.2) | _ => none) = _
  rw [ha]
  show (mf (.ref s1.ob.length :: ds) (s1.ad (.ins c [] []))).bind _ = _
  rw [hf]
  rfl
end
end Lm
set_option Elab.async false
set_option linter.all false
set_option maxRecDepth 100000
set_option maxHeartbeats 1000000
namespace MD
open PySem L2
variable {ww : WW}
noncomputable def Yes {α : Type} (c : Nat) (o : S → Option (α × S)) (P : α → Prop) : Prop :=
  ∀ st : S, 0 ≤ st.n → st.n + (c : Int) ≤ nMax → ∃ a st', o st = some (a, st') ∧ P a ∧ st.n ≤ st'.n ∧ st'.n ≤ st.n + (c : Int)
section
variable {α β : Type} {c c' : Nat} {P Q : α → Prop}
theorem Yes.of_eq {o : S → Option (α × S)} {a : α} (e : ∀ st, o st = some (a, st)) (h : P a) : Yes 0 o P := fun st h0 h1 => ⟨a, st, e st, h, Int.le_refl _, by simp⟩
theorem Yes.mono {o : S → Option (α × S)} (h : Yes c o P) (hc : c ≤ c') (hp : ∀ a, P a → Q a) : Yes c' o Q := fun st h0 h1 => by
  obtain ⟨a, st', e, p, l1, l2⟩ := h st h0 (by omega)
  exact ⟨a, st', e, hp a p, l1, by omega⟩
theorem Yes.bind {o : S → Option (α × S)} {g : α × S → Option (β × S)} {R : β → Prop} (h : Yes c o P) (hg : ∀ a, P a → Yes c' (fun st => g (a, st)) R) : Yes (c + c') (fun st => (o st).bind g) R := fun st h0 h1 => by
  obtain ⟨a, s1, e, p, l1, l2⟩ := h st h0 (by omega)
  obtain ⟨b, s2, e2, r, l3, l4⟩ := hg a p s1 (by omega) (by omega)
  exact ⟨b, s2, by show (o st).bind g = _; rw [e]; exact e2, r, by omega, by omega⟩
theorem Yes.map {o : S → Option (α × S)} {g : α × S → β × S} {R : β → Prop} {k : α → β} (h : Yes c o P) (hk : ∀ a st, g (a, st) = (k a, st)) (hg : ∀ a, P a → R (k a)) : Yes c (fun st => (o st).map g) R := fun st h0 h1 => by
  obtain ⟨a, s1, e, p, l1, l2⟩ := h st h0 h1
  exact ⟨k a, s1, by show (o st).map g = _; rw [e]; show some (g (a, s1)) = _; rw [hk], hg a p, l1, l2⟩
end
theorem drawT_n (many : Int) (st : S) : (drawT many st).n = st.n + 1 := by unfold drawT; split <;> rfl
theorem drawV_lt {c : DC} {many : Int} (h : 0 < many) (st : S) : 0 ≤ drawV c many st ∧ drawV c many st < many := by
  unfold drawV
  split <;> exact ⟨Int.emod_nonneg _ (by omega), Int.emod_lt_of_pos _ h⟩
end MD
set_option Elab.async false
set_option linter.all false
set_option maxRecDepth 100000
set_option maxHeartbeats 1000000
namespace MD
open PySem L2
variable {ww : WW}
section
variable {α : Type} (a b c d : α)
@[simp] theorem at_10 : L2.atI [a] 0 = some a := (rfl)
@[simp] theorem at_20 : L2.atI [a, b] 0 = some a := (rfl)
@[simp] theorem at_21 : L2.atI [a, b] 1 = some b := (rfl)
@[simp] theorem at_30 : L2.atI [a, b, c] 0 = some a := (rfl)
@[simp] theorem at_31 : L2.atI [a, b, c] 1 = some b := (rfl)
@[simp] theorem at_32 : L2.atI [a, b, c] 2 = some c := (rfl)
end
@[simp] theorem tru_non : truD .non = some false := (rfl)
@[simp] theorem tru_bl (b : Bool) : truD (.bl b) = some b := (rfl)
@[simp] theorem tru_int (i : Int) : truD (.int i) = some (i != 0) := (rfl)
@[simp] theorem tru_lst (ds : List D) : truD (.lst ds) = some (!ds.isEmpty) := (rfl)
@[simp] theorem tru_tup (ds : List D) : truD (.tup ds) = some (!ds.isEmpty) := (rfl)
noncomputable def Nice (d : D) : Prop := d.pl = true ∧ d.py.canLay0 = true ∧ d.py.depth ≤ 20
theorem plAll_of {ds : List D} : (∀ d ∈ ds, d.pl = true) → plAll ds = true := by
  induction ds with
  | nil => intro _; rfl
  | cons x r ih =>
    intro h
    show (x.pl && plAll r) = true
    rw [h x List.mem_cons_self, ih fun y hy => h y (List.mem_cons_of_mem _ hy)]; rfl
theorem layAll_of {ds : List D} : (∀ d ∈ ds, d.py.canLay0 = true) → PyData.canLayAll0 (pyAll ds) = true := by
  induction ds with
  | nil => intro _; rfl
  | cons x r ih =>
    intro h
    show (x.py.canLay0 && PyData.canLayAll0 (pyAll r)) = true
    rw [h x List.mem_cons_self, ih fun y hy => h y (List.mem_cons_of_mem _ hy)]; rfl
theorem depAll_of {n : Nat} {ds : List D} : (∀ d ∈ ds, d.py.depth ≤ n) → PyData.depthAll (pyAll ds) ≤ n := by
  induction ds with
  | nil => intro _; exact Nat.zero_le _
  | cons x r ih =>
    intro h
    show max x.py.depth (PyData.depthAll (pyAll r)) ≤ n
    have h1 := h x List.mem_cons_self
    have h2 := ih fun y hy => h y (List.mem_cons_of_mem _ hy)
    omega
theorem Nice.okD {ds : List D} (h : ∀ d ∈ ds, Nice d) : okD (.lst ds) = true := by
  unfold MD.okD SeqAt.shaped
  have h1 : (D.lst ds).pl = true := by rw [D.pl]; exact plAll_of fun d hd => (h d hd).1
  have h2 : (D.lst ds).py.canLay0 = true := by rw [D.py, PyData.canLay0]; exact layAll_of fun d hd => (h d hd).2.1
  have h3 : (D.lst ds).py.depth ≤ 64 := by
    rw [D.py, PyData.depth]
    have := depAll_of (n := 20) fun d hd => (h d hd).2.2
    omega
  rw [h1, h2, decide_eq_true h3]; rfl
theorem Nice.int (i : Int) : Nice (.int i) := ⟨rfl, rfl, by simp [D.py, PyData.depth]⟩
theorem Nice.bl (i : Bool) : Nice (.bl i) := ⟨rfl, rfl, by simp [D.py, PyData.depth]⟩
theorem Nice.non : Nice .non := ⟨rfl, rfl, by simp [D.py, PyData.depth]⟩
theorem Nice.tup' {n : Nat} {ds : List D} (h : ∀ d ∈ ds, d.pl = true ∧ d.py.canLay0 = true ∧ d.py.depth ≤ n) : (D.tup ds).pl = true ∧ (D.tup ds).py.canLay0 = true ∧ (D.tup ds).py.depth ≤ n + 1 := by
  refine ⟨by rw [D.pl]; exact plAll_of fun d hd => (h d hd).1, by rw [D.py, PyData.canLay0]; exact layAll_of fun d hd => (h d hd).2.1, ?_⟩
  rw [D.py, PyData.depth]
  have := depAll_of (n := n) fun d hd => (h d hd).2.2
  omega
theorem ne_nil {ds : List D} (h : ∀ d ∈ ds, Nice d) : neM (.lst ds) (.lst []) = some (.bl (!ds.isEmpty)) := by
  unfold neM eqB
  have e : sEq (.lst ds) (.lst []) = none := rfl
  have h0 : MD.okD (.lst []) = true := Nice.okD fun d hd => nomatch hd
  rw [e]
  simp only [Nice.okD h, h0, Bool.and_self, if_true, Option.map_some]
  cases ds with
  | nil => rfl
  | cons x r => rfl
theorem eq_nil {ds : List D} (h : ∀ d ∈ ds, Nice d) : eqM (.lst ds) (.lst []) = some (.bl ds.isEmpty) := by
  unfold eqM eqB
  have e : sEq (.lst ds) (.lst []) = none := rfl
  have h0 : MD.okD (.lst []) = true := Nice.okD fun d hd => nomatch hd
  rw [e]
  simp only [Nice.okD h, h0, Bool.and_self, if_true, Option.map_some]
  cases ds with
  | nil => rfl
  | cons x r => rfl
theorem strOk_W {ws : List Nat} (h : ∀ c ∈ ws, c < 128) : (D.str (W ws)).py.canLay0 = true := by
  show PyData.strOk (W ws) = true
  unfold PyData.strOk
  rw [← Array.all_toList, W_list, List.all_eq_true]
  intro c hc
  have := h c hc
  exact decide_eq_true (by omega)
end MD
set_option Elab.async false
set_option linter.all false
set_option maxRecDepth 100000
set_option maxHeartbeats 2000000
namespace Lh
open PySem MD L2
variable {st s1 s2 : S} {env : Sg}
theorem sub_of {f h : ME} {x y d : D} (h1 : f env st = some (x, s1)) (h2 : h env s1 = some (y, s2)) (hx : ∀ s, dr s x = x) (hy : ∀ s, dr s y = y) (h3 : subD x y = some d) : opM subD f h env st = some (d, s2) := by
  rw [v_opM, h1, Option.bind_some, h2, Option.bind_some, hx, hy, h3]; rfl
theorem sub_tup {f h : ME} {ds : List D} {j : Int} {d : D} (h1 : f env st = some (.tup ds, s1)) (h2 : h env s1 = some (.int j, s2)) (h3 : L2.atI ds j = some d) : opM subD f h env st = some (d, s2) :=
  sub_of (x := .tup ds) (y := .int j) h1 h2 (fun s => dr_tup s ds) (fun s => rfl) (by rw [v_subT, v_ixT]; exact h3)
theorem at_tup {f : ME} {ds : List D} {j : Nat} {d : D} (h1 : f env st = some (.tup ds, s1)) (h : ds[j]? = some d) : opM subD f (cst (.int ((j : Nat) : Int))) env st = some (d, s1) :=
  sub_tup (h := cst (.int ((j : Nat) : Int))) (j := ((j : Nat) : Int)) (s2 := s1) h1 rfl (atI_of h)
theorem int_add {f h : ME} {i j : Int} (h1 : f env st = some (.int i, s1)) (h2 : h env s1 = some (.int j, s2)) : opM addM f h env st = some (.int (i + j), s2) := by
  simp [h1, h2]
theorem gt_of {f h : ME} {i j : Int} (h1 : f env st = some (.int i, s1)) (h2 : h env s1 = some (.int j, s2)) : tstM (opM gtM f h) env st = some (decide (j < i), s2) := by
  simp [h1, h2]
theorem ge_of {f h : ME} {i j : Int} (h1 : f env st = some (.int i, s1)) (h2 : h env s1 = some (.int j, s2)) : tstM (opM geM f h) env st = some (decide (j ≤ i), s2) := by
  simp [h1, h2]
theorem lt_of {f h : ME} {i j : Int} (h1 : f env st = some (.int i, s1)) (h2 : h env s1 = some (.int j, s2)) : tstM (opM ltA f h) env st = some (decide (i < j), s2) := by
  simp [h1, h2]
theorem ne_int {f h : ME} {i j : Int} (h1 : f env st = some (.int i, s1)) (h2 : h env s1 = some (.int j, s2)) : tstM (opM neM f h) env st = some (decide (i ≠ j), s2) := by
  simp [h1, h2]
theorem eq_int {f h : ME} {i j : Int} (h1 : f env st = some (.int i, s1)) (h2 : h env s1 = some (.int j, s2)) : tstM (opM eqM f h) env st = some (decide (i = j), s2) := by
  simp [h1, h2]
theorem or_f {c d : MT} {r : Option (Bool × S)} (h : c env st = some (false, s1)) (h2 : d env s1 = r) : orM c d env st = r := by
  rw [v_orM, h, Option.bind_some]; exact h2
theorem or_t {c d : MT} (h : c env st = some (true, s1)) : orM c d env st = some (true, s1) := by
  rw [v_orM, h, Option.bind_some]; rfl
theorem and_t {c d : MT} {r : Option (Bool × S)} (h : c env st = some (true, s1)) (h2 : d env s1 = r) : andM c d env st = r := by
  rw [v_andM, h, Option.bind_some]; exact h2
theorem and_f {c d : MT} (h : c env st = some (false, s1)) : andM c d env st = some (false, s1) := by
  rw [v_andM, h, Option.bind_some]; rfl
theorem not_of {c : MT} {b : Bool} (h : c env st = some (b, s1)) : notM c env st = some (!b, s1) := by
  rw [v_notM, h]; rfl
theorem tru_of {f : ME} {b : Bool} (h : f env st = some (.bl b, s1)) : truM f env st = some (b, s1) := by
  rw [v_truM, h]; rfl
theorem tup2 {f h : ME} {x y : D} (h1 : f env st = some (x, s1)) (h2 : h env s1 = some (y, s2)) : tupM (aCons f (aCons h aNil)) env st = some (.tup [x, y], s2) := by
  rw [v_tupM, v_aCons, h1, Option.bind_some, v_aCons, h2]
  simp [grd_of (show 2 ≤ 1000000 by decide)]
theorem r1_of {f : ME} {k : Nat} (h : f env st = some (.int ((k : Nat) : Int), s1)) (hk : k ≤ 1000000) : r1M (aCons f aNil) env st = some ((List.range k).map fun x => D.int ((x : Nat) : Int), s1) := by
  rw [v_r1M, Lm.cons_of (s1 := s1) h v_aNil, Option.bind_some]
  show (rng1 [.int ((k : Nat) : Int)]).map _ = _
  rw [rng1_of (by omega) (by omega)]
  simp [rngD]
theorem asgT2 {f : ME} {i j : Nat} {x y : D} (h : f env st = some (.tup [x, y], s1)) : asgM (tupT 2 (consT (nameT i) (consT (nameT j) nilT))) f env st = some (.nx ((env.set i (.val x)).set j (.val y)), s1) := by
  rw [v_asgM, h]; rfl
/-- nice and at most so deep -/
noncomputable def Nd (n : Nat) (d : D) : Prop := d.pl = true ∧ d.py.canLay0 = true ∧ d.py.depth ≤ n
theorem Nd.nice {n : Nat} {d : D} (h : Nd n d) (hn : n ≤ 20) : Nice d := ⟨h.1, h.2.1, Nat.le_trans h.2.2 hn⟩
theorem Nd.le {n m : Nat} {d : D} (h : Nd n d) (hn : n ≤ m) : Nd m d := ⟨h.1, h.2.1, Nat.le_trans h.2.2 hn⟩
theorem Nd.int (i : Int) : Nd 0 (.int i) := ⟨rfl, rfl, by simp [D.py, PyData.depth]⟩
theorem Nd.bl (i : Bool) : Nd 0 (.bl i) := ⟨rfl, rfl, by simp [D.py, PyData.depth]⟩
theorem Nd.non : Nd 0 .non := ⟨rfl, rfl, by simp [D.py, PyData.depth]⟩
theorem Nd.strW {w : List Nat} (h : ∀ c ∈ w, c < 128) : Nd 0 (.str (W w)) := ⟨rfl, strOk_W h, by simp [D.py, PyData.depth]⟩
theorem Nd.tup {n : Nat} {ds : List D} (h : ∀ d ∈ ds, Nd n d) : Nd (n + 1) (.tup ds) := Nice.tup' h
theorem Nd.tup2 {n : Nat} {x y : D} (hx : Nd n x) (hy : Nd n y) : Nd (n + 1) (.tup [x, y]) := Nd.tup fun d hd => by
  simp only [List.mem_cons, List.mem_nil_iff, or_false] at hd
  rcases hd with rfl | rfl
  · exact hx
  · exact hy
theorem Nd.tup3 {n : Nat} {x y z : D} (hx : Nd n x) (hy : Nd n y) (hz : Nd n z) : Nd (n + 1) (.tup [x, y, z]) := Nd.tup fun d hd => by
  simp only [List.mem_cons, List.mem_nil_iff, or_false] at hd
  rcases hd with rfl | rfl | rfl
  · exact hx
  · exact hy
  · exact hz
theorem Nd.lst {n : Nat} {ds : List D} (h : ∀ d ∈ ds, Nd n d) : Nd (n + 1) (.lst ds) := by
  refine ⟨by rw [D.pl]; exact plAll_of fun d hd => (h d hd).1, by rw [D.py, PyData.canLay0]; exact layAll_of fun d hd => (h d hd).2.1, ?_⟩
  rw [D.py, PyData.depth]
  have := depAll_of (n := n) fun d hd => (h d hd).2.2
  omega
end Lh
set_option Elab.async false
set_option linter.all false
set_option maxRecDepth 100000
set_option maxHeartbeats 1000000
namespace Lc
open PySem MD L2
variable {ww : WW}
noncomputable abbrev nD (n : Nat) : D := .int ((n : Nat) : Int)
theorem cutW_to' {ws : List Nat} {n : Nat} : cutS (W ws) none (some ((n : Nat) : Int)) = W (ws.take n) := by
  unfold cutS
  rw [W_list, W_len, HT.sIx_none, HT.sIx_nat]
  show (⟨((ws.drop 0).take (min n ws.length - 0)).toArray⟩ : Str) = _
  rw [List.drop_zero, Nat.sub_zero]
  have : ws.take (min n ws.length) = ws.take n := by
    by_cases h : n ≤ ws.length
    · rw [Nat.min_eq_left h]
    · rw [Nat.min_eq_right (by omega), List.take_of_length_le (Nat.le_refl _), List.take_of_length_le (by omega)]
  rw [this]
  rfl
theorem forM_of' {it : MI} {t : MG} {b : MS} {env : Sg} {st : S} {ds : List D} {r : Option (Fl × S)} (h : it env st = some (ds, st)) (e : forL t b ds env st = r) : forM it t b env st = r := by
  rw [v_forM, h]
  exact e
theorem sl_to {f h : ME} {env : Sg} {st s1 s2 : S} {w : List Nat} {p : Nat} (h1 : f env st = some (.str (W w), s1)) (h2 : h env s1 = some (nD p, s2)) (hz : w.length ≤ 1000000) : slM slAny f noP (prt h) env st = some (.str (W (w.take p)), s2) := by
  have e2 : prt h env s1 = some (some ((p : Nat) : Int), s2) := by
    unfold prt
    rw [h2]; rfl
  rw [v_slM, h1, Option.bind_some]
  show ((noP env s1).bind _) = _
  show ((prt h env s1).bind _) = _
  rw [e2, Option.bind_some]
  show ((slAny (dr s2 (.str (W w))) none (some ((p : Nat) : Int))).map _) = _
  rw [dr_str, v_slS, grd_of (by rw [W_len]; exact hz), cutW_to']; rfl
theorem compL_list {α : Type} {t : MG} {c : MT} {f : ME} {env : Sg} {st : S} {F : α → D} {G : α → D} {q : α → Bool} {en : α → Sg} : ∀ (l : List α), (∀ a ∈ l, t (F a) env = some (en a) ∧ c (en a) st = some (q a, st) ∧ f (en a) st = some (G a, st)) → compL t c f env (l.map F) st = some ((l.filter q).map G, st)
  | [], _ => rfl
  | a :: l, h => by
    obtain ⟨h1, h2, h3⟩ := h a List.mem_cons_self
    have ih := compL_list l fun b hb => h b (List.mem_cons_of_mem _ hb)
    show ((t (F a) env).bind fun e => (c e st).bind fun p => if p.1 then (f e p.2).bind fun q => (compL t c f env (l.map F) q.2).map fun r => (q.1 :: r.1, r.2) else compL t c f env (l.map F) p.2) = _
    rw [h1, Option.bind_some, h2, Option.bind_some]
    cases hq : q a with
    | true =>
      rw [List.filter_cons_of_pos hq]
      show ((f (en a) st).bind fun q => (compL t c f env (l.map F) q.2).map fun r => (q.1 :: r.1, r.2)) = _
      rw [h3, Option.bind_some, ih]; rfl
    | false =>
      rw [List.filter_cons_of_neg (by rw [hq]; decide)]
      exact ih
/-- texts joined -/
theorem join_Ws (s : List Nat) (ps : List (List Nat)) : Txt.join (W s) (ps.map W) = W (TL.joinL s ps) := by
  apply TL.ext_tl
  rw [TL.join_eq, TL.tl_join]
  show TL.joinL (W s).cps.toList ((ps.map W).map fun x => x.cps.toList) = (W (TL.joinL s ps)).cps.toList
  rw [W_list, W_list, List.map_map]
  have e : ((fun (x : Str) => x.cps.toList) ∘ W) = id := by funext x; simp
  rw [e, List.map_id]
theorem lenW_sum (ps : List (List Nat)) : ((ps.map W).map (·.length)).sum = (ps.map List.length).sum := by
  rw [List.map_map]
  congr 1
/-- sep.join(texts) -/
theorem join_of {f h : ME} {env : Sg} {st s1 s2 : S} {s : List Nat} {ps : List (List Nat)} (h1 : f env st = some (.str (W s), s1)) (h2 : h env s1 = some (.lst (ps.map fun p => D.str (W p)), s2)) (hl : (ps.map List.length).sum + ps.length * s.length ≤ 16000000) :
    m1M joinM f h env st = some (.str (W (TL.joinL s ps)), s2) := by
  have e : (ps.map fun p => D.str (W p)) = (ps.map W).map D.str := by rw [List.map_map]; rfl
  rw [v_m1M, h1, Option.bind_some]
  show ((h env s1).bind _) = _
  rw [h2, Option.bind_some]
  show ((joinM (dr s2 (.str (W s))) [dr s2 (.lst (ps.map fun p => D.str (W p)))]).map _) = _
  rw [dr_str, dr_lst, e]
  show (((strsOf ((ps.map W).map D.str)).bind fun ys => if (ys.map (·.length)).sum + ys.length * (W s).length ≤ 16777216 then some (D.str (Txt.join (W s) ys)) else none).map _) = _
  rw [strsOf_map]
  show ((if ((ps.map W).map (·.length)).sum + (ps.map W).length * (W s).length ≤ 16777216 then some (D.str (Txt.join (W s) (ps.map W))) else none).map _) = _
  rw [if_pos (by rw [lenW_sum, List.length_map, W_len]; omega), join_Ws]; rfl
section
variable {α : Type} {it : MI} {t : MG} {c : MT} {f : ME} {env env1 : Sg} {st : S} {F G : α → D} {q : α → Bool} {en : α → Sg} {vs : List Nat} {l : List α}
theorem comp_fil (hi : it env st = some (l.map F, st)) (hl : l.length ≤ 900000) (hw : wipeE env vs = env1) (h : ∀ a ∈ l, t (F a) env1 = some (en a) ∧ c (en a) st = some (q a, st) ∧ f (en a) st = some (G a, st)) : frz (compM it t c f vs) env st = some (.lst ((l.filter q).map G), st) := by
  rw [v_frz, v_compM, hi, Option.bind_some]
  show (grd (l.map F).length (compL t c f (wipeE env vs) (l.map F) st)).map _ = _
  rw [grd_of (by rw [List.length_map]; omega), hw, compL_list l h]; rfl
theorem comp_map (hi : it env st = some (l.map F, st)) (hl : l.length ≤ 900000) (hw : wipeE env vs = env1) (h : ∀ a ∈ l, t (F a) env1 = some (en a) ∧ f (en a) st = some (G a, st)) : frz (compM it t yesM f vs) env st = some (.lst (l.map G), st) := by
  have := comp_fil (c := yesM) (q := fun _ => true) hi hl hw fun a ha => ⟨(h a ha).1, rfl, (h a ha).2⟩
  rw [List.filter_eq_self.mpr (by simp)] at this
  exact this
end
theorem if_t {c : MT} {f h : ME} {env : Sg} {st s1 : S} {r : Option (D × S)} (hc : c env st = some (true, s1)) (hf : f env s1 = r) : ifM c f h env st = r := by rw [v_ifM, hc, Option.bind_some]; exact hf
theorem if_f {c : MT} {f h : ME} {env : Sg} {st s1 : S} {r : Option (D × S)} (hc : c env st = some (false, s1)) (hf : h env s1 = r) : ifM c f h env st = r := by rw [v_ifM, hc, Option.bind_some]; exact hf
theorem is_of {f : ME} {env : Sg} {st s1 : S} {d : D} (hf : f env st = some (d, s1)) (hd : dr s1 d = d) : tstM (opM isM f (cst .non)) env st = some (nonD d, s1) := by
  rw [v_tstM, v_opM, hf, Option.bind_some]
  show ((isM (dr s1 d) (dr s1 .non)).map fun z => (z, s1)).bind _ = _
  rw [hd]; rfl
theorem isnot_of {f : ME} {env : Sg} {st s1 : S} {d : D} (hf : f env st = some (d, s1)) (hd : dr s1 d = d) : tstM (opM isNotM f (cst .non)) env st = some (!nonD d, s1) := by
  rw [v_tstM, v_opM, hf, Option.bind_some]
  show ((isNotM (dr s1 d) (dr s1 .non)).map fun z => (z, s1)).bind _ = _
  rw [hd]; rfl
/-- strings -/
theorem eq_W {f h : ME} {env : Sg} {st s1 s2 : S} {a b : List Nat} (h1 : f env st = some (.str (W a), s1)) (h2 : h env s1 = some (.str (W b), s2)) : opM eqM f h env st = some (.bl (decide (a = b)), s2) := by
  have e : decide ((W a) = (W b)) = decide (a = b) := by
    by_cases h : a = b
    · rw [decide_eq_true h, decide_eq_true (by rw [h])]
    · rw [decide_eq_false h, decide_eq_false fun e => h (W_inj e)]
  rw [v_opM, h1, Option.bind_some, h2, Option.bind_some, dr_str, dr_str, MD.eq_str, e]; rfl
theorem ne_W {f h : ME} {env : Sg} {st s1 s2 : S} {a b : List Nat} (h1 : f env st = some (.str (W a), s1)) (h2 : h env s1 = some (.str (W b), s2)) : opM neM f h env st = some (.bl (!decide (a = b)), s2) := by
  have e : decide ((W a) = (W b)) = decide (a = b) := by
    by_cases h : a = b
    · rw [decide_eq_true h, decide_eq_true (by rw [h])]
    · rw [decide_eq_false h, decide_eq_false fun e => h (W_inj e)]
  rw [v_opM, h1, Option.bind_some, h2, Option.bind_some, dr_str, dr_str, MD.ne_str]
  simp only [Option.map_some]
  have e2 : decide (W a ≠ W b) = !decide (a = b) := by rw [← e]; simp
  first | rw [e2] | rw [e] | skip
end Lc
set_option Elab.async false
set_option linter.all false
set_option maxRecDepth 100000
set_option maxHeartbeats 2000000
namespace Lw
open PySem MD L2 Lc
variable {ww : WW}
structure Sm where
  k : Nat
  rows : List (List (Option Nat))
  ends : List Bool
  units : List (List Nat)
  cuts : List (Nat × Nat × List Nat)
noncomputable abbrev ltr (k : Nat) : List Nat := (List.range k).map (97 + ·)
structure Sm.Ok (s : Sm) : Prop where
  k0 : 1 ≤ s.k
  k4 : s.k ≤ 4
  r0 : 1 ≤ s.rows.length
  r8 : s.rows.length ≤ 8
  row : ∀ r ∈ s.rows, r.length = s.k ∧ ∀ n, some n ∈ r → n < s.rows.length
  en : s.ends.length = s.rows.length
  u1 : 1 ≤ s.units.length
  u2 : s.units.length ≤ 2
  un : ∀ us ∈ s.units, us.length = s.k ∧ ∀ n ∈ us, n ≤ 9
  c3 : s.cuts.length ≤ 3
  cu : ∀ c ∈ s.cuts, c.1 < s.units.length ∧ c.2.1 ≤ 20 ∧ c.2.2 = (ltr s.k).filter fun x => decide (x ∈ c.2.2)
noncomputable def oD : Option Nat → D
  | some n => nD n
  | none => .non
noncomputable abbrev rwD (r : List (Option Nat)) : D := .tup (r.map oD)
noncomputable abbrev unD (us : List Nat) : D := .tup (us.map nD)
noncomputable def cuD (c : Nat × Nat × List Nat) : D := .tup [nD c.1, nD c.2.1, .str (W c.2.2)]
noncomputable def kiD (s : Sm) : D := .tup [nD s.k, .tup (s.rows.map rwD), .tup (s.ends.map D.bl)]
noncomputable def smD (s : Sm) : D := .tup [kiD s, .tup (s.units.map unD), .tup (s.cuts.map cuD)]
noncomputable abbrev stW : List Nat := [115, 116, 97, 116, 101]
noncomputable abbrev enW : List Nat := [101, 110, 100]
noncomputable abbrev unW : List Nat := [117, 110, 105, 116]
noncomputable abbrev cuW : List Nat := [99, 117, 116]
noncomputable abbrev leW : List Nat := [108, 101, 116, 116, 101, 114, 115]
theorem s_abcd : ("abcd" : Str) = W (ltr 4) := by decide +kernel
noncomputable def itm : Option Nat → List Nat
  | none => [46]
  | some n => TL.numL n
noncomputable def clg (cl : List Nat) : List Nat := if cl = [] then [45] else cl
noncomputable def wst (r : List (Option Nat)) (e : Bool) : List (List Nat) := stW :: (r.map itm ++ if e = true then [enW] else [])
noncomputable def wun (us : List Nat) : List (List Nat) := unW :: us.map TL.numL
noncomputable def wcu (c : Nat × Nat × List Nat) : List (List Nat) := [cuW, TL.numL c.1, TL.numL c.2.1, clg c.2.2]
noncomputable def wle (k : Nat) : List (List Nat) := [leW, ltr k]
noncomputable abbrev ln (ws : List (List Nat)) : List Nat := TL.joinL [32] ws
/-- the words of all lines -/
noncomputable def wls (s : Sm) : List (List (List Nat)) := wle s.k :: ((s.rows.zip s.ends).map (fun z => wst z.1 z.2) ++ s.units.map wun ++ s.cuts.map wcu)
noncomputable def txt (s : Sm) : List Nat := TL.joinL [10] ((wls s).map ln)
theorem sum_le (ps : List (List Nat)) (m : Nat) (h : ∀ p ∈ ps, p.length ≤ m) : (ps.map List.length).sum ≤ ps.length * m := by
  induction ps with
  | nil => simp
  | cons p ps ih =>
    have h1 := h p List.mem_cons_self
    have h2 := ih fun q hq => h q (List.mem_cons_of_mem _ hq)
    rw [List.map_cons, List.sum_cons, List.length_cons, Nat.succ_mul]
    omega
theorem num2 {n : Nat} (h : n ≤ 20) : (TL.numL n).length ≤ 2 := TL.numL_len (k := 2) (by decide) (by omega)
/-- words are short and free of blanks and line ends -/
structure Wd (p : List Nat) : Prop where
  l : p.length ≤ 7
  f : ∀ c ∈ p, 32 < c ∧ c < 123
theorem Wd.num {n : Nat} (h : n ≤ 20) : Wd (TL.numL n) := ⟨Nat.le_trans (num2 h) (by decide), fun c hc => by
  have := TL.numL_digits n c hc
  omega⟩
section
variable {s : Sm} (ok : s.Ok)
include ok
theorem Sm.Ok.item {r : List (Option Nat)} (hr : r ∈ s.rows) {o : Option Nat} (ho : o ∈ r) : ∀ n, o = some n → n ≤ 20 := fun n e => by
  have := (ok.row r hr).2 n (by rw [← e]; exact ho)
  have := ok.r8
  omega
theorem Sm.Ok.cl {c : Nat × Nat × List Nat} (hc : c ∈ s.cuts) : c.2.2.length ≤ 4 ∧ ∀ x ∈ c.2.2, x ∈ ltr s.k := by
  have h := (ok.cu c hc).2.2
  have hk4 := ok.k4
  constructor
  · rw [h]
    refine Nat.le_trans (List.length_filter_le _ _) ?_
    rw [List.length_map, List.length_range]; exact hk4
  · intro x hx
    rw [h] at hx
    exact (List.mem_filter.mp hx).1
end
end Lw
set_option Elab.async false
set_option linter.all false
set_option maxRecDepth 100000
set_option maxHeartbeats 2000000
namespace Lw
open PySem MD L2 Lc
variable {ww : WW}
theorem str_of {env : Sg} {st : S} {x : Str} {w : List Nat} (h : x = W w) : cst (.str x) env st = some (.str (W w), st) := by rw [h]; rfl
theorem at3 {d0 d1 d2 : D} {st : S} {env : Sg} {f : ME} (h : f env st = some (.tup [d0, d1, d2], st)) : opM subD f (cst (.int 0)) env st = some (d0, st) ∧ opM subD f (cst (.int 1)) env st = some (d1, st) ∧ opM subD f (cst (.int 2)) env st = some (d2, st) :=
  ⟨Lh.at_tup (j := 0) h rfl, Lh.at_tup (j := 1) h rfl, Lh.at_tup (j := 2) h rfl⟩
end Lw
set_option Elab.async false
set_option linter.all false
set_option maxRecDepth 100000
set_option maxHeartbeats 2000000
namespace Lw
open PySem MD L2 Lc
variable {ww : WW}
theorem signs_of {f : ME} {env : Sg} {st s1 : S} {w : List Nat} (h : f env st = some (.str (W w), s1)) : seqI f env st = some (w.map fun c => D.str (W [c]), s1) := by
  have e : seqOf (.str (W w)) = some (w.map fun c => D.str (W [c])) := by
    show some ((signs (W w)).map D.str) = _
    rw [W_signs, List.map_map]; rfl
  rw [v_seqI, h, Option.bind_some, e]; rfl
theorem in_W {f h : ME} {env : Sg} {st s1 s2 : S} {c : Nat} {w : List Nat} (h1 : f env st = some (.str (W [c]), s1)) (h2 : h env s1 = some (.str (W w), s2)) : opM (cntD false) f h env st = some (.bl (decide (c ∈ w)), s2) := by
  rw [v_opM, h1, Option.bind_some, h2, Option.bind_some, dr_str, dr_str]
  show ((inSign (.str (W [c])) (.str (W w))).map _) = _
  show (((signOf (W [c])).map fun c => D.bl (decide (c ∈ (W w).cps.toList))).map _) = _
  have e : signOf (W [c]) = some c := by
    unfold signOf
    rw [W_list]
  rw [e, W_list]; rfl
theorem eqnil_of {f : ME} {env : Sg} {st s1 : S} {ds : List D} (h : f env st = some (.lst ds, s1)) (hn : ∀ d ∈ ds, Nice d) : opM eqM f (frz (lstM aNil)) env st = some (.bl ds.isEmpty, s1) := by
  have hl : frz (lstM aNil) env s1 = some (.lst [], s1) := Lm.lst_of v_aNil (by simp)
  rw [v_opM, h, Option.bind_some, hl, Option.bind_some, dr_lst, dr_lst, eq_nil hn]; rfl
theorem nenil_of {f : ME} {env : Sg} {st s1 : S} {ds : List D} (h : f env st = some (.lst ds, s1)) (hn : ∀ d ∈ ds, Nice d) : opM neM f (frz (lstM aNil)) env st = some (.bl (!ds.isEmpty), s1) := by
  have hl : frz (lstM aNil) env s1 = some (.lst [], s1) := Lm.lst_of v_aNil (by simp)
  rw [v_opM, h, Option.bind_some, hl, Option.bind_some, dr_lst, dr_lst, ne_nil hn]; rfl
theorem ch_of {f h k : ME} {env : Sg} {st : S} {a b c : Int} (h1 : f env st = some (.int a, st)) (h2 : h env st = some (.int b, st)) (h3 : k env st = some (.int c, st)) : chM leM leM f h k env st = some (.bl (decide (a ≤ b ∧ b ≤ c)), st) := by
  rw [v_chM, h1, Option.bind_some, h2, Option.bind_some]
  show ((leM (.int a) (.int b)).bind _) = _
  show (if decide (a ≤ b) = true then (k env st).bind fun r => (leM (.int b) r.1).map fun z => (z, r.2) else some (D.bl false, st)) = _
  by_cases hab : a ≤ b
  · rw [if_pos (decide_eq_true hab), h3, Option.bind_some]
    show some (D.bl (decide (b ≤ c)), st) = _
    by_cases hbc : b ≤ c
    · rw [decide_eq_true hbc, decide_eq_true ⟨hab, hbc⟩]
    · rw [decide_eq_false hbc, decide_eq_false fun z => hbc z.2]
  · rw [if_neg (by rw [decide_eq_false hab]; decide), decide_eq_false fun z => hab z.1]
theorem andV_of {f h : ME} {env : Sg} {st s1 : S} {a b : Bool} (h1 : f env st = some (.bl a, s1)) (h2 : a = true → h env s1 = some (.bl b, s1)) : andV f h env st = some (.bl (a && b), s1) := by
  cases a
  · simp [h1]
  · simp [h1, h2 rfl]
noncomputable def made (w sg : List Nat) (m : Nat) : Bool := decide (1 ≤ w.length ∧ w.length ≤ m) && w.all fun c => decide (c ∈ sg)
end Lw
set_option Elab.async false
set_option linter.all false
set_option maxRecDepth 100000
set_option maxHeartbeats 1000000
namespace Lw
open PySem MD L2
variable {ww : WW}
/-- the store with more things -/
noncomputable def Xs (st : S) (r : List Ob) : S := { st with ob := st.ob ++ r }
theorem Xs_at (st : S) (r : List Ob) (i : Nat) : (Xs st r).ob[st.ob.length + i]? = r[i]? := by
  show (st.ob ++ r)[st.ob.length + i]? = _
  rw [List.getElem?_append_right (by omega), Nat.add_sub_cancel_left]
theorem Xs_put (st : S) (r : List Ob) (i : Nat) (o : Ob) : (Xs st r).put (st.ob.length + i) o = Xs st (r.set i o) := by
  show ({ st with ob := (st.ob ++ r).set (st.ob.length + i) o } : S) = _
  rw [List.set_append_right _ _ (by omega), Nat.add_sub_cancel_left]; rfl
theorem Xs_ad (st : S) (r : List Ob) (o : Ob) : (Xs st r).ad o = Xs st (r ++ [o]) := by
  show ({ st with ob := (st.ob ++ r) ++ [o] } : S) = _
  rw [List.append_assoc]; rfl
theorem Xs_nil (st : S) : Xs st [] = st := by
  show ({ st with ob := st.ob ++ [] } : S) = st
  rw [List.append_nil]
section
variable {st : S} {n : Nat} {ds : List D} {env : Sg} {fo fx : ME}
theorem lstAt_of (h : st.ob[n]? = some (.lst ds)) : lstAt st n = some ds := by
  unfold lstAt
  rw [h]
theorem spop_of {d : D} (h : st.ob[n]? = some (.lst (ds ++ [d]))) (ho : fo env st = some (.ref n, st)) : spopM fo env st = some (d, st.put n (.lst ds)) := by
  unfold spopM
  rw [ho, Option.bind_some]
  show (lstAt st n).bind (fun ds => (ds[ds.length - 1]?).map fun d => (d, st.put n (.lst ds.dropLast))) = _
  rw [lstAt_of h, Option.bind_some, List.dropLast_concat, List.length_append]
  have : (ds ++ [d])[ds.length + [d].length - 1]? = some d := by
    rw [List.getElem?_append_right (by simp)]
    simp
  rw [this]; rfl
end
end Lw
set_option Elab.async false
set_option linter.all false
set_option maxRecDepth 100000
set_option maxHeartbeats 2000000
namespace Lw
open PySem MD L2 Lc
variable {ww : WW}
noncomputable abbrev fS : List Str := ["letters", "rows", "ends", "units", "cuts"]
theorem lenL {f : ME} {env : Sg} {st s1 : S} {ds : List D} (h : f env st = some (.lst ds, s1)) : cbM lenA (aCons f aNil) env st = some (.int ((ds.length : Nat) : Int), s1) := by
  rw [v_cbM, Lm.cons_of h v_aNil, Option.bind_some]
  show ((lenA [dr s1 (.lst ds)]).map _ : Option (D × S)) = _
  rw [dr_lst]; rfl
end Lw
set_option Elab.async false
set_option linter.all false
set_option maxRecDepth 100000
set_option maxHeartbeats 2000000
namespace Lw
open PySem MD L2 Lc
end Lw
set_option Elab.async false
set_option linter.all false
set_option maxRecDepth 100000
set_option maxHeartbeats 2000000
namespace Lw
open PySem MD L2 Lc
variable {ww : WW}
theorem isi_of {T : String} {f : ME} {env : Sg} {st s1 : S} {d : D} {b : Bool} (h : f env st = some (d, s1)) (hd : dr s1 d = d) (ht : ((tyD d).bind fun t => kitB t T) = some b) : isiM T f env st = some (.bl b, s1) := by
  unfold isiM
  rw [h, Option.bind_some]
  show ((tyD (dr s1 d)).bind fun t => (kitB t T).map fun b => (D.bl b, s1)) = _
  rw [hd]
  cases hq : tyD d with
  | none => rw [hq] at ht; cases ht
  | some t =>
    rw [hq] at ht
    have ht : kitB t T = some b := ht
    show (kitB t T).map _ = _
    rw [ht]; rfl
theorem isiT {f : ME} {env : Sg} {st s1 : S} {ds : List D} (h : f env st = some (.tup ds, s1)) : isiM "tuple" f env st = some (.bl true, s1) := isi_of h rfl (by show kitB "tuple" "tuple" = some true; decide +kernel)
theorem isiS {f : ME} {env : Sg} {st s1 : S} {x : Str} (h : f env st = some (.str x, s1)) : isiM "str" f env st = some (.bl true, s1) := isi_of h rfl (by show kitB "str" "str" = some true; decide +kernel)
theorem isiI {f : ME} {env : Sg} {st s1 : S} {i : Int} (h : f env st = some (.int i, s1)) : isiM "int" f env st = some (.bl true, s1) ∧ isiM "bool" f env st = some (.bl false, s1) := ⟨isi_of h rfl (by show kitB "int" "int" = some true; decide +kernel), isi_of h rfl (by show kitB "int" "bool" = some false; decide +kernel)⟩
theorem isiB {f : ME} {env : Sg} {st s1 : S} {b : Bool} (h : f env st = some (.bl b, s1)) : isiM "bool" f env st = some (.bl true, s1) := isi_of h rfl (by show kitB "bool" "bool" = some true; decide +kernel)
theorem notV_of {f : ME} {env : Sg} {st s1 : S} {b : Bool} (h : f env st = some (.bl b, s1)) : notV f env st = some (.bl (!b), s1) := by
  simp [h]
theorem intw_ok (i a b : Int) (st : S) : m_is_integer_words [.int i, .int a, .int b] st = some (.bl (decide (a ≤ i ∧ i ≤ b)), st) := by
  have hb : b_is_integer_words = (retM (andV (isiM "int" (rd 0)) (andV (notV (isiM "bool" (rd 0))) (chM leM leM (rd 1) (rd 0) (rd 2))))) := rfl
  refine Lm.run_of ?_
  show b_is_integer_words [.val (.int i), .val (.int a), .val (.int b)] st = _
  rw [hb]
  obtain ⟨h1, h2⟩ := isiI (f := rd 0) (env := [.val (.int i), .val (.int a), .val (.int b)]) (st := st) (s1 := st) (i := i) rfl
  exact Lm.ret_of ((andV_of h1 fun _ => andV_of (notV_of h2) fun _ => ch_of (f := rd 1) (h := rd 0) (k := rd 2) rfl rfl rfl).trans (by simp))
theorem intc_ok (i a b : Int) (st : S) : m_is_integer_cuts [.int i, .int a, .int b] st = some (.bl (decide (a ≤ i ∧ i ≤ b)), st) := intw_ok i a b st
theorem lenT {f : ME} {env : Sg} {st s1 : S} {ds : List D} (h : f env st = some (.tup ds, s1)) : cbM lenA (aCons f aNil) env st = some (.int ((ds.length : Nat) : Int), s1) := by
  rw [v_cbM, Lm.cons_of h v_aNil, Option.bind_some]; rfl
/-- nothing is left of a tuple's items -/
theorem nothing {α : Type} {t : MG} {c : MT} {f : ME} {env env1 : Sg} {st : S} {F : α → D} {en : α → Sg} {fi : ME} {vs : List Nat} {l : List α} (hi : fi env st = some (.tup (l.map F), st)) (hl : l.length ≤ 1000) (hw : wipeE env vs = env1) (h : ∀ a ∈ l, t (F a) env1 = some (en a) ∧ c (en a) st = some (false, st) ∧ f (en a) st = some (F a, st)) :
    opM eqM (frz (compM (seqI fi) t c f vs)) (frz (lstM aNil)) env st = some (.bl true, st) := by
  have hs : seqI fi env st = some (l.map F, st) := by rw [v_seqI, hi]; rfl
  have c1 := comp_fil (q := fun _ => false) (G := F) hs (by omega) hw h
  rw [List.filter_eq_nil_iff.mpr (by simp)] at c1
  exact eqnil_of c1 (by intro d hd; cases hd)
section
variable {s : Sm} (ok : s.Ok) (st : S)
include ok
theorem row_none {r : List (Option Nat)} (hr : r ∈ s.rows) : m_is_row [rwD r, nD s.k, nD s.rows.length] st = some (.bl true, st) := by
  have hb : b_is_row = (seqM (ifS (orM (notM (truM (isiM "tuple" (rd 0)))) (tstM (opM neM (cbM lenA (aCons (rd 0) aNil)) (rd 1))))
 (retM (cst (.bl false)))
 nxM)
 (retM (opM eqM (frz (compM (seqI (rd 0)) (nameT 3) (andM (tstM (opM isNotM (rd 3) (cst .non))) (notM (truM (callM m_is_integer_words (aCons (rd 3) (aCons (cst (.int 0)) (aCons (opM subM (rd 2) (cst (.int 1))) aNil))))))) (rd 3) [3])) (frz (lstM aNil))))) := rfl
  obtain ⟨hl, hn⟩ := ok.row r hr
  have hk4 := ok.k4
  have hr0 := ok.r0
  refine Lm.run_of ?_
  show b_is_row [.val (rwD r), .val (nD s.k), .val (nD s.rows.length), .un] st = _
  rw [hb]
  have t1 := Lh.not_of (Lh.tru_of (isiT (f := rd 0) (env := [.val (rwD r), .val (nD s.k), .val (nD s.rows.length), .un]) (st := st) (s1 := st) (ds := r.map oD) rfl))
  have t2 := Lh.ne_int (h := rd 1) (j := ((s.k : Nat) : Int)) (s2 := st) (lenT (f := rd 0) (env := [.val (rwD r), .val (nD s.k), .val (nD s.rows.length), .un]) (st := st) (s1 := st) (ds := r.map oD) rfl) rfl
  rw [decide_eq_false (by rw [List.length_map, hl]; simp)] at t2
  rw [Lm.seq_nx (Lm.ifs_f (Lh.or_f t1 t2) v_nxM)]
  refine Lm.ret_of (nothing (F := oD) (en := fun o => [.val (rwD r), .val (nD s.k), .val (nD s.rows.length), .val (oD o)]) (l := r) rfl (by omega) rfl fun o ho => ⟨rfl, ?_, rfl⟩)
  have t1 := Lc.isnot_of (f := rd 3) (env := [.val (rwD r), .val (nD s.k), .val (nD s.rows.length), .val (oD o)]) (st := st) (s1 := st) (d := oD o) rfl (by cases o <;> rfl)
  cases o with
  | none => exact Lh.and_f t1
  | some n =>
    have := hn n ho
    have a1 : opM subM (rd 2) (cst (.int 1)) [.val (rwD r), .val (nD s.k), .val (nD s.rows.length), .val (oD (some n))] st = some (.int (((s.rows.length : Nat) : Int) - 1), st) := rfl
    have c1 := Lm.call_of (Lm.cons_of (f := rd 3) (d := .int ((n : Nat) : Int)) (s1 := st) rfl (Lm.cons_of (f := cst (.int 0)) (d := .int 0) (s1 := st) rfl (Lm.cons_of a1 v_aNil))) (intw_ok ((n : Nat) : Int) 0 (((s.rows.length : Nat) : Int) - 1) st)
    rw [decide_eq_true (by omega)] at c1
    exact Lh.and_t t1 (Lh.not_of (Lh.tru_of c1))
theorem rows_none : m_are_rows [.tup (s.rows.map rwD), nD s.k] st = some (.bl true, st) := by
  have hb : b_are_rows = (seqM (ifS (orM (notM (truM (isiM "tuple" (rd 0)))) (notM (tstM (chM leM leM (cst (.int 1)) (cbM lenA (aCons (rd 0) aNil)) (cst (.int 8))))))
 (retM (cst (.bl false)))
 nxM)
 (retM (opM eqM (frz (compM (seqI (rd 0)) (nameT 2) (notM (truM (callM m_is_row (aCons (rd 2) (aCons (rd 1) (aCons (cbM lenA (aCons (rd 0) aNil)) aNil)))))) (rd 2) [2])) (frz (lstM aNil))))) := rfl
  have hr0 := ok.r0
  have hr8 := ok.r8
  refine Lm.run_of ?_
  show b_are_rows [.val (.tup (s.rows.map rwD)), .val (nD s.k), .un] st = _
  rw [hb]
  have hlen : ∀ x, cbM lenA (aCons (rd 0) aNil) [.val (.tup (s.rows.map rwD)), .val (nD s.k), x] st = some (.int ((s.rows.length : Nat) : Int), st) := fun x => by
    have := lenT (f := rd 0) (env := [.val (.tup (s.rows.map rwD)), .val (nD s.k), x]) (st := st) (s1 := st) (ds := s.rows.map rwD) rfl
    rw [List.length_map] at this
    exact this
  have t1 := Lh.not_of (Lh.tru_of (isiT (f := rd 0) (env := [.val (.tup (s.rows.map rwD)), .val (nD s.k), .un]) (st := st) (s1 := st) (ds := s.rows.map rwD) rfl))
  have c2 := ch_of (f := cst (.int 1)) (k := cst (.int 8)) (a := 1) (c := 8) rfl (hlen .un) rfl
  rw [decide_eq_true (by omega)] at c2
  rw [Lm.seq_nx (Lm.ifs_f (Lh.or_f t1 (Lh.not_of (Lm.tst_of c2))) v_nxM)]
  refine Lm.ret_of (nothing (F := rwD) (en := fun r => [.val (.tup (s.rows.map rwD)), .val (nD s.k), .val (rwD r)]) (l := s.rows) rfl (by omega) rfl fun r hr => ⟨rfl, ?_, rfl⟩)
  exact Lh.not_of (Lh.tru_of (Lm.call_of (Lm.cons_of (f := rd 2) (s1 := st) rfl (Lm.cons_of (f := rd 1) (s1 := st) rfl (Lm.cons_of (hlen _) v_aNil))) (row_none ok st hr)))
theorem ends_none : m_are_ends [.tup (s.ends.map D.bl), nD s.rows.length] st = some (.bl true, st) := by
  have hb : b_are_ends = (seqM (ifS (orM (notM (truM (isiM "tuple" (rd 0)))) (tstM (opM neM (cbM lenA (aCons (rd 0) aNil)) (rd 1))))
 (retM (cst (.bl false)))
 nxM)
 (retM (opM eqM (frz (compM (seqI (rd 0)) (nameT 2) (notM (truM (isiM "bool" (rd 2)))) (rd 2) [2])) (frz (lstM aNil))))) := rfl
  have hr8 := ok.r8
  have hen := ok.en
  refine Lm.run_of ?_
  show b_are_ends [.val (.tup (s.ends.map D.bl)), .val (nD s.rows.length), .un] st = _
  rw [hb]
  have t1 := Lh.not_of (Lh.tru_of (isiT (f := rd 0) (env := [.val (.tup (s.ends.map D.bl)), .val (nD s.rows.length), .un]) (st := st) (s1 := st) (ds := s.ends.map D.bl) rfl))
  have t2 := Lh.ne_int (h := rd 1) (j := ((s.rows.length : Nat) : Int)) (s2 := st) (lenT (f := rd 0) (env := [.val (.tup (s.ends.map D.bl)), .val (nD s.rows.length), .un]) (st := st) (s1 := st) (ds := s.ends.map D.bl) rfl) rfl
  rw [decide_eq_false (by rw [List.length_map, hen]; simp)] at t2
  rw [Lm.seq_nx (Lm.ifs_f (Lh.or_f t1 t2) v_nxM)]
  refine Lm.ret_of (nothing (F := D.bl) (en := fun b => [.val (.tup (s.ends.map D.bl)), .val (nD s.rows.length), .val (.bl b)]) (l := s.ends) rfl (by omega) rfl fun b hb => ⟨rfl, ?_, rfl⟩)
  exact Lh.not_of (Lh.tru_of (isiB (f := rd 2) (s1 := st) (b := b) rfl))
theorem kind_none : m_kind_error [kiD s] st = some (.non, st) := by
  have hb : b_kind_error = (seqM (ifS (orM (notM (truM (isiM "tuple" (rd 0)))) (tstM (opM neM (cbM lenA (aCons (rd 0) aNil)) (cst (.int 3)))))
 (retM (cst (.str "kind")))
 nxM)
 (seqM (ifS (notM (truM (callM m_is_integer_words (aCons (opM subD (rd 0) (cst (.int 0))) (aCons (cst (.int 1)) (aCons (cst (.int 4)) aNil))))))
 (retM (cst (.str "letters")))
 nxM)
 (seqM (ifS (notM (truM (callM m_are_rows (aCons (opM subD (rd 0) (cst (.int 1))) (aCons (opM subD (rd 0) (cst (.int 0))) aNil)))))
 (retM (cst (.str "rows")))
 nxM)
 (retM (ifM (truM (callM m_are_ends (aCons (opM subD (rd 0) (cst (.int 2))) (aCons (cbM lenA (aCons (opM subD (rd 0) (cst (.int 1))) aNil)) aNil)))) (cst .non) (cst (.str "ends"))))))) := rfl
  have hk0 := ok.k0
  have hk4 := ok.k4
  refine Lm.run_of ?_
  show b_kind_error [.val (kiD s)] st = _
  rw [hb]
  obtain ⟨k0, k1, k2⟩ := at3 (f := rd 0) (env := [.val (kiD s)]) (st := st) (d0 := nD s.k) (d1 := .tup (s.rows.map rwD)) (d2 := .tup (s.ends.map D.bl)) rfl
  have t1 := Lh.not_of (Lh.tru_of (isiT (f := rd 0) (env := [.val (kiD s)]) (st := st) (s1 := st) (ds := [nD s.k, .tup (s.rows.map rwD), .tup (s.ends.map D.bl)]) rfl))
  have t2 := Lh.ne_int (h := cst (.int 3)) (j := 3) (s2 := st) (lenT (f := rd 0) (env := [.val (kiD s)]) (st := st) (s1 := st) (ds := [nD s.k, .tup (s.rows.map rwD), .tup (s.ends.map D.bl)]) rfl) rfl
  rw [decide_eq_false (by show ¬ ((3 : Int) ≠ 3); simp)] at t2
  rw [Lm.seq_nx (Lm.ifs_f (Lh.or_f t1 t2) v_nxM)]
  have c1 := Lm.call_of (Lm.cons_of k0 (Lm.cons_of (f := cst (.int 1)) (d := .int 1) (s1 := st) rfl (Lm.cons_of (f := cst (.int 4)) (d := .int 4) (s1 := st) rfl v_aNil))) (intw_ok ((s.k : Nat) : Int) 1 4 st)
  rw [decide_eq_true (by omega)] at c1
  rw [Lm.seq_nx (Lm.ifs_f (Lh.not_of (Lh.tru_of c1)) v_nxM)]
  have c2 := Lm.call_of (Lm.cons_of k1 (Lm.cons_of k0 v_aNil)) (rows_none ok st)
  rw [Lm.seq_nx (Lm.ifs_f (Lh.not_of (Lh.tru_of c2)) v_nxM)]
  have hl := lenT k1
  rw [List.length_map] at hl
  have c3 := Lm.call_of (Lm.cons_of k2 (Lm.cons_of hl v_aNil)) (ends_none ok st)
  exact Lm.ret_of (if_t (Lh.tru_of c3) rfl)
theorem unit_none {us : List Nat} (hu : us ∈ s.units) : m_is_unit [nD s.k, unD us] st = some (.bl true, st) := by
  have hb : b_is_unit = (seqM (ifS (orM (notM (truM (isiM "tuple" (rd 1)))) (tstM (opM neM (cbM lenA (aCons (rd 1) aNil)) (rd 0))))
 (retM (cst (.bl false)))
 nxM)
 (retM (opM eqM (frz (compM (seqI (rd 1)) (nameT 2) (notM (truM (callM m_is_integer_cuts (aCons (rd 2) (aCons (cst (.int 0)) (aCons (cst (.int 9)) aNil)))))) (rd 2) [2])) (frz (lstM aNil))))) := rfl
  obtain ⟨hl, hn⟩ := ok.un us hu
  have hk4 := ok.k4
  refine Lm.run_of ?_
  show b_is_unit [.val (nD s.k), .val (unD us), .un] st = _
  rw [hb]
  have t1 := Lh.not_of (Lh.tru_of (isiT (f := rd 1) (env := [.val (nD s.k), .val (unD us), .un]) (st := st) (s1 := st) (ds := us.map nD) rfl))
  have t2 := Lh.ne_int (h := rd 0) (j := ((s.k : Nat) : Int)) (s2 := st) (lenT (f := rd 1) (env := [.val (nD s.k), .val (unD us), .un]) (st := st) (s1 := st) (ds := us.map nD) rfl) rfl
  rw [decide_eq_false (by rw [List.length_map, hl]; simp)] at t2
  rw [Lm.seq_nx (Lm.ifs_f (Lh.or_f t1 t2) v_nxM)]
  refine Lm.ret_of (nothing (F := nD) (en := fun n => [.val (nD s.k), .val (unD us), .val (nD n)]) (l := us) rfl (by omega) rfl fun n hnu => ⟨rfl, ?_, rfl⟩)
  have := hn n hnu
  have c1 := Lm.call_of (Lm.cons_of (f := rd 2) (env := [.val (nD s.k), .val (unD us), .val (nD n)]) (st := st) (d := .int ((n : Nat) : Int)) (s1 := st) rfl (Lm.cons_of (f := cst (.int 0)) (d := .int 0) (s1 := st) rfl (Lm.cons_of (f := cst (.int 9)) (d := .int 9) (s1 := st) rfl v_aNil))) (intc_ok ((n : Nat) : Int) 0 9 st)
  rw [decide_eq_true (by omega)] at c1
  exact Lh.not_of (Lh.tru_of c1)
theorem units_none : m_are_units [nD s.k, .tup (s.units.map unD)] st = some (.bl true, st) := by
  have hb : b_are_units = (seqM (ifS (orM (notM (truM (isiM "tuple" (rd 1)))) (notM (tstM (chM leM leM (cst (.int 1)) (cbM lenA (aCons (rd 1) aNil)) (cst (.int 2))))))
 (retM (cst (.bl false)))
 nxM)
 (retM (opM eqM (frz (compM (seqI (rd 1)) (nameT 2) (notM (truM (callM m_is_unit (aCons (rd 0) (aCons (rd 2) aNil))))) (rd 2) [2])) (frz (lstM aNil))))) := rfl
  have hu1 := ok.u1
  have hu2 := ok.u2
  refine Lm.run_of ?_
  show b_are_units [.val (nD s.k), .val (.tup (s.units.map unD)), .un] st = _
  rw [hb]
  have hlen := lenT (f := rd 1) (env := [.val (nD s.k), .val (.tup (s.units.map unD)), .un]) (st := st) (s1 := st) (ds := s.units.map unD) rfl
  rw [List.length_map] at hlen
  have t1 := Lh.not_of (Lh.tru_of (isiT (f := rd 1) (env := [.val (nD s.k), .val (.tup (s.units.map unD)), .un]) (st := st) (s1 := st) (ds := s.units.map unD) rfl))
  have c2 := ch_of (f := cst (.int 1)) (k := cst (.int 2)) (a := 1) (c := 2) rfl hlen rfl
  rw [decide_eq_true (by omega)] at c2
  rw [Lm.seq_nx (Lm.ifs_f (Lh.or_f t1 (Lh.not_of (Lm.tst_of c2))) v_nxM)]
  refine Lm.ret_of (nothing (F := unD) (en := fun us => [.val (nD s.k), .val (.tup (s.units.map unD)), .val (unD us)]) (l := s.units) rfl (by omega) rfl fun us hu => ⟨rfl, ?_, rfl⟩)
  exact Lh.not_of (Lh.tru_of (Lm.call_of (Lm.cons_of (f := rd 0) (s1 := st) rfl (Lm.cons_of (f := rd 2) (s1 := st) rfl v_aNil)) (unit_none ok st hu)))
omit ok in
theorem joinL_one : ∀ l : List Nat, TL.joinL [] (l.map fun c => [c]) = l
  | [] => rfl
  | [c] => rfl
  | c :: d :: l => by
    have ih := joinL_one (d :: l)
    show [c] ++ ([] ++ TL.joinL [] ((d :: l).map fun c => [c])) = _
    rw [ih]; rfl
theorem cling_none {c : Nat × Nat × List Nat} (hc : c ∈ s.cuts) : m_are_clinging [nD s.k, .str (W c.2.2)] st = some (.bl true, st) := by
  have hb : b_are_clinging = (seqM (ifS (notM (truM (isiM "str" (rd 1))))
 (retM (cst (.bl false)))
 nxM)
 (retM (opM eqM (rd 1) (m1M joinM (cst (.str "")) (frz (compM (seqI (slM slAny (cst (.str "abcd")) noP (prt (rd 0)))) (nameT 2) (tstM (opM (cntD false) (rd 2) (rd 1))) (rd 2) [2])))))) := rfl
  obtain ⟨_, _, hcl⟩ := ok.cu c hc
  have hk4 := ok.k4
  refine Lm.run_of ?_
  show b_are_clinging [.val (nD s.k), .val (.str (W c.2.2)), .un] st = _
  rw [hb]
  have t1 := Lh.not_of (Lh.tru_of (isiS (f := rd 1) (env := [.val (nD s.k), .val (.str (W c.2.2)), .un]) (st := st) (s1 := st) (x := W c.2.2) rfl))
  rw [Lm.seq_nx (Lm.ifs_f t1 v_nxM)]
  have e1 := sl_to (f := cst (.str "abcd")) (h := rd 0) (env := [.val (nD s.k), .val (.str (W c.2.2)), .un]) (st := st) (s1 := st) (s2 := st) (w := ltr 4) (p := s.k) (by rw [s_abcd]; rfl) rfl (by simp)
  have e2 : (ltr 4).take s.k = ltr s.k := by
    have hk : s.k = 0 ∨ s.k = 1 ∨ s.k = 2 ∨ s.k = 3 ∨ s.k = 4 := by omega
    rcases hk with hk | hk | hk | hk | hk <;> rw [hk] <;> rfl
  rw [e2] at e1
  have c2 := comp_fil (F := fun x => D.str (W [x])) (G := fun x => D.str (W [x])) (t := nameT 2) (c := tstM (opM (cntD false) (rd 2) (rd 1))) (f := rd 2) (q := fun x => decide (x ∈ c.2.2)) (vs := [2]) (env1 := [.val (nD s.k), .val (.str (W c.2.2)), .un]) (en := fun x => [.val (nD s.k), .val (.str (W c.2.2)), .val (.str (W [x]))]) (l := ltr s.k) (signs_of e1) (by simp; omega) rfl
    (fun x hx => ⟨rfl, Lm.tst_of (in_W (s1 := st) rfl rfl), rfl⟩)
  rw [← hcl] at c2
  have hl4 := (ok.cl hc).1
  have e3 : (c.2.2.map fun x => D.str (W [x])) = (c.2.2.map fun x => [x]).map fun p => D.str (W p) := by rw [List.map_map]; rfl
  rw [e3] at c2
  have j1 := join_of (str_of empty_W) c2 (by
    have : ∀ l : List Nat, ((l.map fun x => [x]).map List.length).sum = l.length := fun l => by
      induction l with
      | nil => rfl
      | cons a l ih => rw [List.map_cons, List.map_cons, List.sum_cons, ih, List.length_cons]; simp; omega
    rw [this, List.length_map]
    simp; omega)
  rw [joinL_one] at j1
  have := eq_W (f := rd 1) (env := [.val (nD s.k), .val (.str (W c.2.2)), .un]) (st := st) (s1 := st) (a := c.2.2) rfl j1
  rw [decide_eq_true rfl] at this
  exact Lm.ret_of this
theorem cut_none {c : Nat × Nat × List Nat} (hc : c ∈ s.cuts) : m_is_cut [nD s.k, .tup (s.units.map unD), cuD c] st = some (.bl true, st) := by
  have hb : b_is_cut = (seqM (ifS (orM (notM (truM (isiM "tuple" (rd 2)))) (tstM (opM neM (cbM lenA (aCons (rd 2) aNil)) (cst (.int 3)))))
 (retM (cst (.bl false)))
 nxM)
 (retM (andV (callM m_is_cut_limit (aCons (rd 1) (aCons (slM slAny (rd 2) noP (prt (cst (.int 2)))) aNil))) (callM m_are_clinging (aCons (rd 0) (aCons (opM subD (rd 2) (cst (.int 2))) aNil)))))) := rfl
  have hb2 : b_is_cut_limit = (seqM (ifS (orM (notM (truM (isiM "tuple" (rd 1)))) (tstM (opM neM (cbM lenA (aCons (rd 1) aNil)) (cst (.int 2)))))
 (retM (cst (.bl false)))
 nxM)
 (retM (andV (callM m_is_integer_cuts (aCons (opM subD (rd 1) (cst (.int 0))) (aCons (cst (.int 0)) (aCons (opM subM (cbM lenA (aCons (rd 0) aNil)) (cst (.int 1))) aNil)))) (callM m_is_integer_cuts (aCons (opM subD (rd 1) (cst (.int 1))) (aCons (cst (.int 0)) (aCons (cst (.int 20)) aNil))))))) := rfl
  obtain ⟨q1, q2, _⟩ := ok.cu c hc
  have lim : m_is_cut_limit [.tup (s.units.map unD), .tup [nD c.1, nD c.2.1]] st = some (.bl true, st) := by
    refine Lm.run_of ?_
    show b_is_cut_limit [.val (.tup (s.units.map unD)), .val (.tup [nD c.1, nD c.2.1])] st = _
    rw [hb2]
    have t1 := Lh.not_of (Lh.tru_of (isiT (f := rd 1) (env := [.val (.tup (s.units.map unD)), .val (.tup [nD c.1, nD c.2.1])]) (st := st) (s1 := st) (ds := [nD c.1, nD c.2.1]) rfl))
    have t2 := Lh.ne_int (h := cst (.int 2)) (j := 2) (s2 := st) (lenT (f := rd 1) (env := [.val (.tup (s.units.map unD)), .val (.tup [nD c.1, nD c.2.1])]) (st := st) (s1 := st) (ds := [nD c.1, nD c.2.1]) rfl) rfl
    rw [decide_eq_false (by show ¬ ((2 : Int) ≠ 2); simp)] at t2
    rw [Lm.seq_nx (Lm.ifs_f (Lh.or_f t1 t2) v_nxM)]
    have u0 : opM subD (rd 1) (cst (.int 0)) [.val (.tup (s.units.map unD)), .val (.tup [nD c.1, nD c.2.1])] st = some (nD c.1, st) := Lh.at_tup (j := 0) (f := rd 1) (s1 := st) (ds := [nD c.1, nD c.2.1]) rfl rfl
    have u1 : opM subD (rd 1) (cst (.int 1)) [.val (.tup (s.units.map unD)), .val (.tup [nD c.1, nD c.2.1])] st = some (nD c.2.1, st) := Lh.at_tup (j := 1) (f := rd 1) (s1 := st) (ds := [nD c.1, nD c.2.1]) rfl rfl
    have hlen := lenT (f := rd 0) (env := [.val (.tup (s.units.map unD)), .val (.tup [nD c.1, nD c.2.1])]) (st := st) (s1 := st) (ds := s.units.map unD) rfl
    rw [List.length_map] at hlen
    have a1 : opM subM (cbM lenA (aCons (rd 0) aNil)) (cst (.int 1)) [.val (.tup (s.units.map unD)), .val (.tup [nD c.1, nD c.2.1])] st = some (.int (((s.units.length : Nat) : Int) - 1), st) := by
      rw [v_opM, hlen]; rfl
    have c1 := Lm.call_of (Lm.cons_of u0 (Lm.cons_of (f := cst (.int 0)) (d := .int 0) (s1 := st) rfl (Lm.cons_of a1 v_aNil))) (intc_ok ((c.1 : Nat) : Int) 0 (((s.units.length : Nat) : Int) - 1) st)
    rw [decide_eq_true (by omega)] at c1
    have c2 := Lm.call_of (Lm.cons_of u1 (Lm.cons_of (f := cst (.int 0)) (d := .int 0) (s1 := st) rfl (Lm.cons_of (f := cst (.int 20)) (d := .int 20) (s1 := st) rfl v_aNil))) (intc_ok ((c.2.1 : Nat) : Int) 0 20 st)
    rw [decide_eq_true (by omega)] at c2
    exact Lm.ret_of (andV_of c1 fun _ => c2)
  refine Lm.run_of ?_
  show b_is_cut [.val (nD s.k), .val (.tup (s.units.map unD)), .val (cuD c)] st = _
  rw [hb]
  have t1 := Lh.not_of (Lh.tru_of (isiT (f := rd 2) (env := [.val (nD s.k), .val (.tup (s.units.map unD)), .val (cuD c)]) (st := st) (s1 := st) (ds := [nD c.1, nD c.2.1, .str (W c.2.2)]) rfl))
  have t2 := Lh.ne_int (h := cst (.int 3)) (j := 3) (s2 := st) (lenT (f := rd 2) (env := [.val (nD s.k), .val (.tup (s.units.map unD)), .val (cuD c)]) (st := st) (s1 := st) (ds := [nD c.1, nD c.2.1, .str (W c.2.2)]) rfl) rfl
  rw [decide_eq_false (by show ¬ ((3 : Int) ≠ 3); simp)] at t2
  rw [Lm.seq_nx (Lm.ifs_f (Lh.or_f t1 t2) v_nxM)]
  obtain ⟨_, _, k2⟩ := at3 (f := rd 2) (env := [.val (nD s.k), .val (.tup (s.units.map unD)), .val (cuD c)]) (st := st) (d0 := nD c.1) (d1 := nD c.2.1) (d2 := .str (W c.2.2)) rfl
  have e1 : slM slAny (rd 2) noP (prt (cst (.int 2))) [.val (nD s.k), .val (.tup (s.units.map unD)), .val (cuD c)] st = some (.tup [nD c.1, nD c.2.1], st) := rfl
  exact Lm.ret_of (andV_of (Lm.call_of (Lm.cons_of (f := rd 1) (s1 := st) rfl (Lm.cons_of e1 v_aNil)) lim) fun _ => Lm.call_of (Lm.cons_of (f := rd 0) (s1 := st) rfl (Lm.cons_of k2 v_aNil)) (cling_none ok st hc))
noncomputable def ceB : MS := (ifS (notM (truM (callM m_is_cut (aCons (rd 0) (aCons (rd 1) (aCons (rd 4) aNil))))))
 (retM (tupM (aCons (rd 3) (aCons (cst (.str "cut")) aNil))))
 nxM)
theorem ce_loop : ∀ (cs : List (Nat × Nat × List Nat)), (∀ c ∈ cs, c ∈ s.cuts) → ∀ (i : Nat) (x3 x4 : Sl), ∃ y3 y4, forL (tupT 2 (consT (nameT 3) (consT (nameT 4) nilT))) ceB (((cs.map cuD).zipIdx i).map fun p => D.tup [.int ((p.2 : Nat) : Int), p.1]) [.val (nD s.k), .val (.tup (s.units.map unD)), .val (.tup (s.cuts.map cuD)), x3, x4] st = some (.nx [.val (nD s.k), .val (.tup (s.units.map unD)), .val (.tup (s.cuts.map cuD)), y3, y4], st)
  | [], _, i, x3, x4 => ⟨x3, x4, rfl⟩
  | c :: cs, hc, i, x3, x4 => by
    obtain ⟨y3, y4, h2⟩ := ce_loop cs (fun y hy => hc y (List.mem_cons_of_mem _ hy)) (i + 1) (.val (nD i)) (.val (cuD c))
    refine ⟨y3, y4, ?_⟩
    have h1 : ceB [.val (nD s.k), .val (.tup (s.units.map unD)), .val (.tup (s.cuts.map cuD)), .val (nD i), .val (cuD c)] st = some (.nx [.val (nD s.k), .val (.tup (s.units.map unD)), .val (.tup (s.cuts.map cuD)), .val (nD i), .val (cuD c)], st) :=
      Lm.ifs_f (Lh.not_of (Lh.tru_of (Lm.call_of (Lm.cons_of (f := rd 0) (s1 := st) rfl (Lm.cons_of (f := rd 1) (s1 := st) rfl (Lm.cons_of (f := rd 4) (s1 := st) rfl v_aNil))) (cut_none ok st (hc c List.mem_cons_self))))) v_nxM
    have et : tupT 2 (consT (nameT 3) (consT (nameT 4) nilT)) (D.tup [.int ((i : Nat) : Int), cuD c]) [.val (nD s.k), .val (.tup (s.units.map unD)), .val (.tup (s.cuts.map cuD)), x3, x4] = some [.val (nD s.k), .val (.tup (s.units.map unD)), .val (.tup (s.cuts.map cuD)), .val (nD i), .val (cuD c)] := rfl
    rw [List.map_cons, List.zipIdx_cons, List.map_cons, v_forL, et, Option.bind_some, h1, Option.bind_some]
    exact h2
theorem cuts_none : m_cuts_error [nD s.k, .tup (s.units.map unD), .tup (s.cuts.map cuD)] st = some (.non, st) := by
  have hb : b_cuts_error = (seqM (ifS (notM (truM (isiM "tuple" (rd 2))))
 (retM (tupM (aCons (cst .non) (aCons (cst (.str "cuts")) aNil))))
 nxM)
 (seqM (forM (enumI (rd 2)) (tupT 2 (consT (nameT 3) (consT (nameT 4) nilT))) ceB)
 (retM (ifM (tstM (opM gtM (cbM lenA (aCons (rd 2) aNil)) (cst (.int 3)))) (tupM (aCons (cst .non) (aCons (cst (.str "many")) aNil))) (cst .non))))) := rfl
  have hc3 := ok.c3
  refine Lm.run_of ?_
  show b_cuts_error [.val (nD s.k), .val (.tup (s.units.map unD)), .val (.tup (s.cuts.map cuD)), .un, .un] st = _
  rw [hb]
  have t1 := Lh.not_of (Lh.tru_of (isiT (f := rd 2) (env := [.val (nD s.k), .val (.tup (s.units.map unD)), .val (.tup (s.cuts.map cuD)), .un, .un]) (st := st) (s1 := st) (ds := s.cuts.map cuD) rfl))
  rw [Lm.seq_nx (Lm.ifs_f t1 v_nxM)]
  obtain ⟨y3, y4, h2⟩ := ce_loop ok st s.cuts (fun c hc => hc) 0 .un .un
  rw [Lm.seq_nx (forM_of' (show enumI (rd 2) [.val (nD s.k), .val (.tup (s.units.map unD)), .val (.tup (s.cuts.map cuD)), .un, .un] st = some (enumD (s.cuts.map cuD), st) from rfl) h2)]
  have hlen := lenT (f := rd 2) (env := [.val (nD s.k), .val (.tup (s.units.map unD)), .val (.tup (s.cuts.map cuD)), y3, y4]) (st := st) (s1 := st) (ds := s.cuts.map cuD) rfl
  rw [List.length_map] at hlen
  have t3 := Lh.gt_of (h := cst (.int 3)) (j := 3) (s2 := st) hlen rfl
  rw [decide_eq_false (by omega)] at t3
  exact Lm.ret_of (if_f t3 rfl)
theorem scheme_none : m_scheme_error [smD s] st = some (.non, st) := by
  have hb : b_scheme_error = (seqM (ifS (orM (notM (truM (isiM "tuple" (rd 0)))) (tstM (opM neM (cbM lenA (aCons (rd 0) aNil)) (cst (.int 3)))))
 (retM (tupM (aCons (cst (.str "scheme")) (aCons (cst .non) aNil))))
 nxM)
 (seqM (asgM (tupT 3 (consT (nameT 1) (consT (nameT 2) (consT (nameT 3) nilT)))) (rd 0))
 (seqM (asgM (nameT 4) (callM m_kind_error (aCons (rd 1) aNil)))
 (seqM (ifS (tstM (opM isNotM (rd 4) (cst .non)))
 (retM (tupM (aCons (cst (.str "kind")) (aCons (rd 4) aNil))))
 nxM)
 (seqM (ifS (notM (truM (callM m_are_units (aCons (opM subD (rd 1) (cst (.int 0))) (aCons (rd 2) aNil)))))
 (retM (tupM (aCons (cst (.str "units")) (aCons (cst .non) aNil))))
 nxM)
 (seqM (asgM (nameT 4) (callM m_cuts_error (aCons (opM subD (rd 1) (cst (.int 0))) (aCons (rd 2) (aCons (rd 3) aNil)))))
 (retM (ifM (tstM (opM isM (rd 4) (cst .non))) (cst .non) (tupM (aCons (cst (.str "cuts")) (aCons (rd 4) aNil))))))))))) := rfl
  refine Lm.run_of ?_
  show b_scheme_error [.val (smD s), .un, .un, .un, .un] st = _
  rw [hb]
  have t1 := Lh.not_of (Lh.tru_of (isiT (f := rd 0) (env := [.val (smD s), .un, .un, .un, .un]) (st := st) (s1 := st) (ds := [kiD s, .tup (s.units.map unD), .tup (s.cuts.map cuD)]) rfl))
  have t2 := Lh.ne_int (h := cst (.int 3)) (j := 3) (s2 := st) (lenT (f := rd 0) (env := [.val (smD s), .un, .un, .un, .un]) (st := st) (s1 := st) (ds := [kiD s, .tup (s.units.map unD), .tup (s.cuts.map cuD)]) rfl) rfl
  rw [decide_eq_false (by show ¬ ((3 : Int) ≠ 3); simp)] at t2
  rw [Lm.seq_nx (Lm.ifs_f (Lh.or_f t1 t2) v_nxM)]
  have e0 : asgM (tupT 3 (consT (nameT 1) (consT (nameT 2) (consT (nameT 3) nilT)))) (rd 0) [.val (smD s), .un, .un, .un, .un] st = some (.nx [.val (smD s), .val (kiD s), .val (.tup (s.units.map unD)), .val (.tup (s.cuts.map cuD)), .un], st) := rfl
  rw [Lm.seq_nx e0]
  have c1 := Lm.call_of (Lm.cons_of (f := rd 1) (env := [.val (smD s), .val (kiD s), .val (.tup (s.units.map unD)), .val (.tup (s.cuts.map cuD)), .un]) (st := st) (s1 := st) rfl v_aNil) (kind_none ok st)
  rw [Lm.seq_nx (e := [.val (smD s), .val (kiD s), .val (.tup (s.units.map unD)), .val (.tup (s.cuts.map cuD)), .val .non]) (Lm.asg_nx c1)]
  have t3 := Lc.isnot_of (f := rd 4) (env := [.val (smD s), .val (kiD s), .val (.tup (s.units.map unD)), .val (.tup (s.cuts.map cuD)), .val .non]) (st := st) (s1 := st) (d := .non) rfl rfl
  rw [Lm.seq_nx (Lm.ifs_f t3 v_nxM)]
  obtain ⟨k0, _, _⟩ := at3 (f := rd 1) (env := [.val (smD s), .val (kiD s), .val (.tup (s.units.map unD)), .val (.tup (s.cuts.map cuD)), .val .non]) (st := st) (d0 := nD s.k) (d1 := .tup (s.rows.map rwD)) (d2 := .tup (s.ends.map D.bl)) rfl
  have c2 := Lm.call_of (Lm.cons_of k0 (Lm.cons_of (f := rd 2) (s1 := st) rfl v_aNil)) (units_none ok st)
  rw [Lm.seq_nx (Lm.ifs_f (Lh.not_of (Lh.tru_of c2)) v_nxM)]
  have c3 := Lm.call_of (Lm.cons_of k0 (Lm.cons_of (f := rd 2) (s1 := st) rfl (Lm.cons_of (f := rd 3) (s1 := st) rfl v_aNil))) (cuts_none ok st)
  rw [Lm.seq_nx (e := [.val (smD s), .val (kiD s), .val (.tup (s.units.map unD)), .val (.tup (s.cuts.map cuD)), .val .non]) (Lm.asg_nx c3)]
  exact Lm.ret_of (if_t (Lc.is_of (f := rd 4) (s1 := st) (d := .non) rfl rfl) rfl)
end
end Lw
set_option Elab.async false
set_option linter.all false
set_option maxRecDepth 100000
set_option maxHeartbeats 2000000
namespace Lw
open PySem MD L2 Lc
variable {ww : WW}
theorem nw {x M : Int} {b c : Nat} (hn : x + (c : Int) ≤ M) (h : b ≤ c) : x + (b : Int) ≤ M := by omega
theorem nb {x y M : Int} {a b c : Nat} (hn : x + (c : Int) ≤ M) (l : y ≤ x + (a : Int)) (h : a + b ≤ c) : y + (b : Int) ≤ M := by omega
theorem nl {x y z : Int} {a b c : Nat} (l1 : y ≤ x + (a : Int)) (l2 : z ≤ y + (b : Int)) (h : a + b ≤ c) : z ≤ x + (c : Int) := by omega
theorem nu {x y : Int} {a c : Nat} (l : y ≤ x + (a : Int)) (h : a ≤ c) : y ≤ x + (c : Int) := by omega
noncomputable def YesO {α : Type} (c : Nat) (o : S → Option (α × S)) (P : α → Prop) : Prop :=
  ∀ st : S, 0 ≤ st.n → st.n + (c : Int) ≤ nMax → ∃ a st', o st = some (a, st') ∧ P a ∧ st'.ob = st.ob ∧ st.n ≤ st'.n ∧ st'.n ≤ st.n + (c : Int)
theorem drawT_ob (many : Int) (st : S) : (drawT many st).ob = st.ob := by unfold drawT; split <;> rfl
theorem drawO {m : Nat} (h0 : 0 < m) (h1 : m ≤ 1000) : YesO 1 (m__law_draw [.deck, nD m]) fun d => ∃ r : Nat, d = nD r ∧ r < m := fun st h hn => by
  have hlt := drawV_lt (c := dc) (many := (m : Int)) (by omega) st
  refine ⟨.int (drawV dc (m : Int) st), drawT (m : Int) st, ?_, ⟨(drawV dc (m : Int) st).toNat, ?_, by omega⟩, drawT_ob _ _, ?_, ?_⟩
  · show drawM dc [.deck, .int (m : Int)] st = _
    unfold drawM
    exact if_pos ⟨by omega, by omega, h, by omega⟩
  · show D.int _ = D.int _
    rw [Int.toNat_of_nonneg hlt.1]
  · rw [drawT_n]; omega
  · rw [drawT_n]; omega
theorem drw {f : ME} {m : Nat} {env : Sg} (h0 : 0 < m) (h1 : m ≤ 1000) (hd : ∀ s : S, rd 0 env s = some (.deck, s)) (hf : ∀ s : S, f env s = some (nD m, s)) : YesO 1 (callM m__law_draw (aCons (rd 0) (aCons f aNil)) env) fun d => ∃ r : Nat, d = nD r ∧ r < m := fun st h hn => by
  obtain ⟨d, s1, e, r⟩ := drawO h0 h1 st h hn
  exact ⟨d, s1, Lm.call_of (Lm.cons_of (hd st) (Lm.cons_of (hf st) v_aNil)) e, r⟩
theorem one_lst {ds : List D} {st : S} (h0 : ds ≠ []) (h1 : ds.length ≤ 1000) (hs : 0 ≤ st.n) (hn : st.n + 1 ≤ nMax) : ∃ d s1, m__law_one [.deck, .lst ds] st = some (d, s1) ∧ d ∈ ds ∧ s1.ob = st.ob ∧ st.n ≤ s1.n ∧ s1.n ≤ st.n + 1 := by
  have hp := List.length_pos_iff.mpr h0
  have e0 : cbM lenA (aCons (rd 1) aNil) [.val .deck, .val (.lst ds)] st = some (nD ds.length, st) := lenL (f := rd 1) (s1 := st) rfl
  obtain ⟨d, s1, e, ⟨r, rfl, hr⟩, ho, l1, l2⟩ := drawO (m := ds.length) hp h1 st hs (by omega)
  refine ⟨ds[r], s1, ?_, List.getElem_mem hr, ho, l1, l2⟩
  have hc := Lm.call_of (Lm.cons_of (f := rd 0) (env := [.val .deck, .val (.lst ds)]) (st := st) (s1 := st) rfl (Lm.cons_of e0 v_aNil)) e
  have hb : b__law_one = retM (opM subD (rd 1) (callM m__law_draw (aCons (rd 0) (aCons (cbM lenA (aCons (rd 1) aNil)) aNil)))) := rfl
  refine Lm.run_of ?_
  show b__law_one [.val .deck, .val (.lst ds)] st = _
  rw [hb]
  exact Lm.ret_of (Lh.sub_of (f := rd 1) (s1 := st) (x := .lst ds) (y := nD r) rfl hc (fun s => dr_lst s _) (fun s => rfl) (by rw [v_subL, v_ixL, atI_of (j := r) (by rw [List.getElem?_eq_getElem hr])]))
theorem compL_yesO {α : Type} {t : MG} {f : ME} {env : Sg} {k : Nat} {F : α → D} {P : α → Prop} : ∀ (ds : List D), (∀ d ∈ ds, ∃ e, t d env = some e ∧ YesO k (f e) fun x => ∃ a, x = F a ∧ P a) → YesO (ds.length * k) (compL t yesM f env ds) fun l => ∃ as : List α, l = as.map F ∧ as.length = ds.length ∧ ∀ a ∈ as, P a
  | [], _ => fun st h0 hn => ⟨[], st, rfl, ⟨[], rfl, rfl, fun _ h => nomatch h⟩, rfl, Int.le_refl _, by simp⟩
  | d :: ds, h => by
    obtain ⟨e, h1, h2⟩ := h d List.mem_cons_self
    have ih := compL_yesO ds fun x hx => h x (List.mem_cons_of_mem _ hx)
    intro st h0 hn
    have en : ((d :: ds).length * k : Nat) = k + ds.length * k := by rw [List.length_cons, Nat.succ_mul]; omega
    rw [en] at hn ⊢
    obtain ⟨y, s1, e1, ⟨a, rfl, p1⟩, o1, l1, l2⟩ := h2 st h0 (by omega)
    obtain ⟨l, s2, e2, ⟨as, rfl, p2, p3⟩, o2, l3, l4⟩ := ih s1 (by omega) (by omega)
    refine ⟨F a :: as.map F, s2, ?_, ⟨a :: as, rfl, by simp [p2], fun x hx => ?_⟩, o2.trans o1, by omega, by omega⟩
    · rw [v_compL, h1]
      simp [e1, e2]
    · rcases List.mem_cons.mp hx with z | z
      · rw [z]; exact p1
      · exact p3 x z
theorem compL_subO {α : Type} {t : MG} {c : MT} {f : ME} {env : Sg} {k : Nat} {F G : α → D} : ∀ (as : List α), (∀ a ∈ as, ∃ e, t (F a) env = some e ∧ YesO k (c e) (fun _ => True) ∧ ∀ s, f e s = some (G a, s)) → YesO (as.length * k) (compL t c f env (as.map F)) fun l => ∃ bs : List α, l = bs.map G ∧ bs.Sublist as
  | [], _ => fun st h0 hn => ⟨[], st, rfl, ⟨[], rfl, List.Sublist.slnil⟩, rfl, Int.le_refl _, by simp⟩
  | d :: ds, h => by
    obtain ⟨e, h1, h2, h3⟩ := h d List.mem_cons_self
    have ih := compL_subO ds fun x hx => h x (List.mem_cons_of_mem _ hx)
    intro st h0 hn
    have en : ((d :: ds).length * k : Nat) = k + ds.length * k := by rw [List.length_cons, Nat.succ_mul]; omega
    rw [en] at hn ⊢
    obtain ⟨y, s1, e1, _, o1, l1, l2⟩ := h2 st h0 (by omega)
    obtain ⟨l, s2, e2, ⟨as, rfl, p2⟩, o2, l3, l4⟩ := ih s1 (by omega) (by omega)
    cases y with
    | true =>
      refine ⟨G d :: as.map G, s2, ?_, ⟨d :: as, rfl, p2.cons_cons d⟩, o2.trans o1, by omega, by omega⟩
      rw [List.map_cons, v_compL, h1]
      simp [e1, e2, h3]
    | false =>
      refine ⟨as.map G, s2, ?_, ⟨as, rfl, p2.cons d⟩, o2.trans o1, by omega, by omega⟩
      rw [List.map_cons, v_compL, h1]
      simp [e1, e2]
theorem fil_sub {bs as : List Nat} (h : bs.Sublist as) (hn : as.Nodup) : bs = as.filter fun x => decide (x ∈ bs) := by
  induction h with
  | slnil => rfl
  | cons a hs ih =>
    rename_i l1 l2
    rw [List.nodup_cons] at hn
    have : a ∉ l1 := fun h => hn.1 (hs.subset h)
    rw [List.filter_cons_of_neg (by simpa using this)]
    exact ih hn.2
  | cons_cons a hs ih =>
    rename_i l1 l2
    rw [List.nodup_cons] at hn
    rw [List.filter_cons_of_pos (by simp)]
    congr 1
    have e := ih hn.2
    rw [show (List.filter (fun x => decide (x ∈ a :: l1)) l2) = List.filter (fun x => decide (x ∈ l1)) l2 from List.filter_congr fun x hx => by
      have : x ≠ a := fun z => hn.1 (z ▸ hx)
      simp [this]]
    exact e
theorem sapp2 {fo fx : ME} {env : Sg} {st s1 : S} {n : Nat} {ds0 ds : List D} {d : D} (h : st.ob[n]? = some (.lst ds0)) (h1 : s1.ob[n]? = some (.lst ds)) (hl : ds.length ≤ 900000) (ho : fo env st = some (.ref n, st)) (hx : fx env st = some (d, s1)) : sappM fo fx env st = some (.nx env, s1.put n (.lst (ds ++ [d]))) := by
  rw [v_sappM, ho, Option.bind_some, v_refOf, Option.bind_some]
  show (lstAt st n).bind _ = _
  rw [lstAt_of h, Option.bind_some, hx, Option.bind_some]
  show (lstAt s1 n).bind _ = _
  rw [lstAt_of h1, Option.bind_some]
  exact grd_of (show ds.length + 1 ≤ 1000000 by omega)
theorem tupR {f : ME} {env : Sg} {st s1 : S} {n : Nat} {ds : List D} (h1 : f env st = some (.ref n, s1)) (h2 : s1.ob[n]? = some (.lst ds)) : cbM tupleM (aCons f aNil) env st = some (.tup ds, s1) := by
  have hd : dr s1 (.ref n) = .lst ds := by
    show (match s1.ob[n]? with | some (.lst ds) => D.lst ds | some (.dic _ ks ds) => .dic ks ds | _ => .ref n) = _
    rw [h2]
  rw [v_cbM, Lm.cons_of h1 v_aNil, Option.bind_some]
  show ((tupleM [dr s1 (.ref n)]).map _ : Option (D × S)) = _
  rw [hd]; rfl
noncomputable def rowE : ME := (ifM (tstM (opM eqM (callM m__law_draw (aCons (rd 0) (aCons (cst (.int 5)) aNil))) (cst (.int 0)))) (cst .non) (callM m__law_draw (aCons (rd 0) (aCons (rd 3) aNil))))
theorem rowE_yes {m : Nat} (h0 : 0 < m) (h1 : m ≤ 1000) {env : Sg} (hd : ∀ s : S, rd 0 env s = some (.deck, s)) (hf : ∀ s : S, rd 3 env s = some (nD m, s)) : YesO 2 (rowE env) fun x => ∃ o : Option Nat, x = oD o ∧ ∀ n, o = some n → n < m := fun st h hn => by
  obtain ⟨_, s1, e1, ⟨r, rfl, hr⟩, o1, l1, l2⟩ := drw (f := cst (.int 5)) (m := 5) (env := env) (by decide) (by decide) hd (fun s => rfl) st h (by omega)
  have t := Lh.eq_int (h := cst (.int 0)) (j := 0) (s2 := s1) e1 rfl
  by_cases hz : ((r : Nat) : Int) = 0
  · rw [decide_eq_true hz] at t
    exact ⟨.non, s1, if_t t rfl, ⟨none, rfl, fun n h => nomatch h⟩, o1, by omega, by omega⟩
  · rw [decide_eq_false hz] at t
    obtain ⟨_, s2, e2, ⟨q, rfl, hq⟩, o2, l3, l4⟩ := drw (f := rd 3) (m := m) (env := env) h0 h1 hd hf s1 (by omega) (by omega)
    exact ⟨nD q, s2, if_f t e2, ⟨some q, rfl, fun n h => by cases h; exact hq⟩, o2.trans o1, by omega, by omega⟩
noncomputable def kiB : MS := (seqM (asgM (nameT 7) (frz (compM (r1M (aCons (rd 1) aNil)) (nameT 8) yesM rowE [8])))
 (seqM (sappM (rd 4) (cbM tupleM (aCons (rd 7) aNil)))
 (sappM (rd 5) (opM gtM (callM m__law_draw (aCons (rd 0) (aCons (cst (.int 3)) aNil))) (cst (.int 0))))))
noncomputable abbrev envK (k m : Nat) (L : Nat) (x2 x6 x7 x8 : Sl) : Sg := [.val .deck, .val (nD k), x2, .val (nD m), .val (.ref L), .val (.ref (L + 1)), x6, x7, x8]
theorem tup_lst {f : ME} {env : Sg} {st s1 : S} {ds : List D} (h1 : f env st = some (.lst ds, s1)) : cbM tupleM (aCons f aNil) env st = some (.tup ds, s1) := by
  rw [v_cbM, Lm.cons_of h1 v_aNil, Option.bind_some]; rfl
section
variable {k m : Nat} (h4 : k ≤ 4) (hm0 : 0 < m) (hm : m ≤ 8) (x2 : Sl) (L : List Ob)
include h4 hm0 hm
theorem ki_turn (x6 x7 x8 : Sl) (rows : List (List (Option Nat))) (ends : List Bool) (h1 : rows.length ≤ 1000) (h2 : ends.length ≤ 1000) (st : S) (ho : st.ob = L ++ [.lst (rows.map rwD), .lst (ends.map D.bl)]) (h0 : 0 ≤ st.n) (hn : st.n + 10 ≤ nMax) :
    ∃ (row : List (Option Nat)) (b : Bool) (x7' x8' : Sl) (st' : S), kiB (envK k m L.length x2 x6 x7 x8) st = some (.nx (envK k m L.length x2 x6 x7' x8'), st') ∧ row.length = k ∧ (∀ n, some n ∈ row → n < m) ∧ st'.ob = L ++ [.lst ((rows ++ [row]).map rwD), .lst ((ends ++ [b]).map D.bl)] ∧ st.n ≤ st'.n ∧ st'.n ≤ st.n + 10 := by
  have hk : ((List.range k).map fun x => D.int ((x : Nat) : Int)).length = k := by simp
  obtain ⟨_, s1, e1, ⟨row, rfl, r1, r2⟩, o1, l1, l2⟩ := compL_yesO (t := nameT 8) (f := rowE) (env := envK k m L.length x2 x6 x7 .un) (k := 2) (F := oD) (P := fun o => ∀ n, o = some n → n < m) ((List.range k).map fun x => D.int ((x : Nat) : Int)) (fun d _ => ⟨envK k m L.length x2 x6 x7 (.val d), rfl, rowE_yes hm0 (by omega) (fun s => rfl) (fun s => rfl)⟩) st h0 (by rw [hk]; omega)
  rw [hk] at l2 r1
  have er : r1M (aCons (rd 1) aNil) (envK k m L.length x2 x6 x7 x8) st = some ((List.range k).map fun x => D.int ((x : Nat) : Int), st) := Lh.r1_of (f := rd 1) (s1 := st) rfl (by omega)
  have ec : frz (compM (r1M (aCons (rd 1) aNil)) (nameT 8) yesM rowE [8]) (envK k m L.length x2 x6 x7 x8) st = some (.lst (row.map oD), s1) := by
    rw [v_frz, v_compM, er, Option.bind_some]
    show (grd _ (compL _ _ _ (envK k m L.length x2 x6 x7 .un) _ st)).map _ = _
    rw [grd_of (by rw [hk]; omega), e1]; rfl
  have g1 : s1.ob[L.length]? = some (.lst (rows.map rwD)) := by
    rw [o1, ho, List.getElem?_append_right (Nat.le_refl _), Nat.sub_self]; rfl
  have a1 : sappM (rd 4) (cbM tupleM (aCons (rd 7) aNil)) (envK k m L.length x2 x6 (.val (.lst (row.map oD))) x8) s1 = some (.nx (envK k m L.length x2 x6 (.val (.lst (row.map oD))) x8), s1.put L.length (.lst (rows.map rwD ++ [rwD row]))) :=
    sapp2 g1 g1 (by rw [List.length_map]; omega) rfl (tup_lst (f := rd 7) (s1 := s1) rfl)
  have o2 : (s1.put L.length (.lst (rows.map rwD ++ [rwD row]))).ob = L ++ [.lst ((rows ++ [row]).map rwD), .lst (ends.map D.bl)] := by
    show s1.ob.set L.length _ = _
    rw [o1, ho, List.set_append_right _ _ (Nat.le_refl _), Nat.sub_self, List.map_append]; rfl
  obtain ⟨s2, hs2⟩ : ∃ s2, s2 = s1.put L.length (.lst (rows.map rwD ++ [rwD row])) := ⟨_, rfl⟩
  have n2 : s2.n = s1.n := by rw [hs2]; rfl
  rw [← hs2] at a1 o2
  obtain ⟨_, s3, e3, ⟨r, rfl, hr⟩, o3, l3, l4⟩ := drw (f := cst (.int 3)) (m := 3) (env := envK k m L.length x2 x6 (.val (.lst (row.map oD))) x8) (by decide) (by decide) (fun s => rfl) (fun s => rfl) s2 (by omega) (by omega)
  have eg : opM gtM (callM m__law_draw (aCons (rd 0) (aCons (cst (.int 3)) aNil))) (cst (.int 0)) (envK k m L.length x2 x6 (.val (.lst (row.map oD))) x8) s2 = some (.bl (decide ((0 : Int) < ((r : Nat) : Int))), s3) := by
    rw [v_opM, e3]; rfl
  have g2 : ∀ s : S, s.ob = L ++ [.lst ((rows ++ [row]).map rwD), .lst (ends.map D.bl)] → s.ob[L.length + 1]? = some (.lst (ends.map D.bl)) := fun s h => by
    rw [h, List.getElem?_append_right (by omega), Nat.add_sub_cancel_left]; rfl
  have a2 : sappM (rd 5) (opM gtM (callM m__law_draw (aCons (rd 0) (aCons (cst (.int 3)) aNil))) (cst (.int 0))) (envK k m L.length x2 x6 (.val (.lst (row.map oD))) x8) s2 = some (.nx (envK k m L.length x2 x6 (.val (.lst (row.map oD))) x8), s3.put (L.length + 1) (.lst (ends.map D.bl ++ [.bl (decide ((0 : Int) < ((r : Nat) : Int)))]))) :=
    sapp2 (g2 s2 o2) (g2 s3 (o3.trans o2)) (by rw [List.length_map]; omega) rfl eg
  refine ⟨row, decide ((0 : Int) < ((r : Nat) : Int)), .val (.lst (row.map oD)), x8, s3.put (L.length + 1) (.lst (ends.map D.bl ++ [.bl (decide ((0 : Int) < ((r : Nat) : Int)))])), ?_, r1, fun n h => r2 _ h n rfl, ?_, ?_, ?_⟩
  · unfold kiB
    rw [Lm.seq_nx (e := envK k m L.length x2 x6 (.val (.lst (row.map oD))) x8) (Lm.asg_nx ec), Lm.seq_nx a1]
    exact a2
  · show s3.ob.set (L.length + 1) _ = _
    rw [o3, o2, List.set_append_right _ _ (by omega), Nat.add_sub_cancel_left, List.map_append, List.map_append]; rfl
  · show st.n ≤ s3.n; omega
  · show s3.n ≤ _; omega
theorem ki_loop : ∀ (ds : List D) (rows : List (List (Option Nat))) (ends : List Bool) (x6 x7 x8 : Sl) (st : S), st.ob = L ++ [.lst (rows.map rwD), .lst (ends.map D.bl)] → 0 ≤ st.n → st.n + ((ds.length * 10 : Nat) : Int) ≤ nMax → rows.length + ds.length ≤ 1000 → ends.length = rows.length → (∀ r ∈ rows, r.length = k ∧ ∀ n, some n ∈ r → n < m) →
    ∃ (rows' : List (List (Option Nat))) (ends' : List Bool) (y6 y7 y8 : Sl) (st' : S), forL (nameT 6) kiB ds (envK k m L.length x2 x6 x7 x8) st = some (.nx (envK k m L.length x2 y6 y7 y8), st') ∧ st'.ob = L ++ [.lst (rows'.map rwD), .lst (ends'.map D.bl)] ∧ rows'.length = rows.length + ds.length ∧ ends'.length = rows'.length ∧ (∀ r ∈ rows', r.length = k ∧ ∀ n, some n ∈ r → n < m) ∧ st.n ≤ st'.n ∧ st'.n ≤ st.n + ((ds.length * 10 : Nat) : Int)
  | [], rows, ends, x6, x7, x8, st, ho, h0, hn, hl, he, hr => ⟨rows, ends, x6, x7, x8, st, rfl, ho, rfl, he, hr, Int.le_refl _, by simp⟩
  | d :: ds, rows, ends, x6, x7, x8, st, ho, h0, hn, hl, he, hr => by
    rw [List.length_cons] at hn hl ⊢
    obtain ⟨row, b, y7, y8, s1, e1, r1, r2, o1, l1, l2⟩ := ki_turn h4 hm0 hm x2 L (.val d) x7 x8 rows ends (by omega) (by omega) st ho h0 (by omega)
    obtain ⟨rows', ends', z6, z7, z8, s2, e2, o2, q1, q2, q3, l3, l4⟩ := ki_loop ds (rows ++ [row]) (ends ++ [b]) (.val d) y7 y8 s1 o1 (by omega) (by omega) (by simp; omega) (by simp; omega) fun r h => by
      rcases List.mem_append.mp h with h | h
      · exact hr r h
      · rw [List.mem_singleton.mp h]; exact ⟨r1, r2⟩
    refine ⟨rows', ends', z6, z7, z8, s2, ?_, o2, by rw [q1, List.length_append]; simp; omega, q2, q3, by omega, by omega⟩
    have et : nameT 6 d (envK k m L.length x2 x6 x7 x8) = some (envK k m L.length x2 (.val d) x7 x8) := rfl
    rw [v_forL, et, Option.bind_some, e1, Option.bind_some]
    exact e2
end
/-- a kind's parts -/
theorem kind_yes {k S8 : Nat} (h4 : k ≤ 4) (hS : 1 ≤ S8) (hS8 : S8 ≤ 8) : Yes 81 (m__law_kind [.deck, nD k, nD S8]) fun d => ∃ (rows : List (List (Option Nat))) (ends : List Bool), d = .tup [nD k, .tup (rows.map rwD), .tup (ends.map D.bl)] ∧ 1 ≤ rows.length ∧ rows.length ≤ 8 ∧ ends.length = rows.length ∧ ∀ r ∈ rows, r.length = k ∧ ∀ n, some n ∈ r → n < rows.length := by
  intro st h0 hn
  have hb : b__law_kind = (seqM (asgM (tupT 3 (consT (nameT 3) (consT (nameT 4) (consT (nameT 5) nilT)))) (tupM (aCons (opM addM (cst (.int 1)) (callM m__law_draw (aCons (rd 0) (aCons (rd 2) aNil)))) (aCons (stoL (lstM aNil)) (aCons (stoL (lstM aNil)) aNil)))))
    (seqM (forM (r1M (aCons (rd 3) aNil)) (nameT 6) kiB)
    (retM (tupM (aCons (rd 1) (aCons (cbM tupleM (aCons (rd 4) aNil)) (aCons (cbM tupleM (aCons (rd 5) aNil)) aNil))))))) := rfl
  obtain ⟨_, s1, e1, ⟨q, rfl, hq⟩, o1, l1, l2⟩ := drw (f := rd 2) (m := S8) (env := [.val .deck, .val (nD k), .val (nD S8), .un, .un, .un, .un, .un, .un]) (by omega) (by omega) (fun s => rfl) (fun s => rfl) st h0 (nw hn (by decide))
  obtain ⟨m, hm⟩ : ∃ m : Nat, m = 1 + q := ⟨_, rfl⟩
  have em : (1 : Int) + ((q : Nat) : Int) = ((m : Nat) : Int) := by omega
  have e2 : opM addM (cst (.int 1)) (callM m__law_draw (aCons (rd 0) (aCons (rd 2) aNil))) [.val .deck, .val (nD k), .val (nD S8), .un, .un, .un, .un, .un, .un] st = some (nD m, s1) := by
    rw [Lh.int_add (f := cst (.int 1)) (i := 1) (s1 := st) rfl e1, em]
  obtain ⟨s2, hs2⟩ : ∃ s2, s2 = (s1.ad (.lst [])).ad (.lst []) := ⟨_, rfl⟩
  have e3 : tupM (aCons (opM addM (cst (.int 1)) (callM m__law_draw (aCons (rd 0) (aCons (rd 2) aNil)))) (aCons (stoL (lstM aNil)) (aCons (stoL (lstM aNil)) aNil))) [.val .deck, .val (nD k), .val (nD S8), .un, .un, .un, .un, .un, .un] st = some (.tup [nD m, .ref st.ob.length, .ref (st.ob.length + 1)], s2) := by
    have b1 : ∀ (env : Sg) (s : S), stoL (lstM aNil) env s = some (.ref s.ob.length, s.ad (.lst [])) := fun env s => by
      rw [v_stoL, v_lstM, v_aNil, Option.bind_some]
      show (grd 0 (some (([] : List D), s))).map _ = _
      rw [grd_of (show 0 ≤ 1000000 by decide)]; rfl
    rw [v_tupM, Lm.cons_of e2 (Lm.cons_of (b1 _ s1) (Lm.cons_of (b1 _ (s1.ad (.lst []))) v_aNil)), Option.bind_some]
    have hl : (s1.ad (.lst [])).ob.length = st.ob.length + 1 := by
      show (s1.ob ++ [_]).length = _
      rw [o1, List.length_append]; rfl
    rw [hl, o1, ← hs2]
    exact grd_of (show 3 ≤ 1000000 by decide)
  have o2 : s2.ob = st.ob ++ [.lst (([] : List (List (Option Nat))).map rwD), .lst (([] : List Bool).map D.bl)] := by
    rw [hs2]
    show (s1.ob ++ [_]) ++ [_] = _
    rw [o1, List.append_assoc]; rfl
  have n2 : s2.n = s1.n := by rw [hs2]; rfl
  obtain ⟨rows, ends, y6, y7, y8, s3, e4, o3, r1, r2, r3, l3, l4⟩ := ki_loop h4 (m := m) (by omega) (by omega) (.val (nD S8)) st.ob ((List.range m).map fun x => D.int ((x : Nat) : Int)) [] [] .un .un .un s2 o2 (by omega) (by simp; omega) (by simp; omega) rfl (fun r h => nomatch h)
  have hml : ((List.range m).map fun x => D.int ((x : Nat) : Int)).length = m := by simp
  rw [hml] at r1 l4
  have r1 : rows.length = m := by simpa using r1
  have er : r1M (aCons (rd 3) aNil) (envK k m st.ob.length (.val (nD S8)) .un .un .un) s2 = some ((List.range m).map fun x => D.int ((x : Nat) : Int), s2) := Lh.r1_of (f := rd 3) (s1 := s2) rfl (by omega)
  refine ⟨_, s3, Lm.run_of ?_, ⟨rows, ends, rfl, by omega, by omega, r2, fun r h => by rw [r1]; exact r3 r h⟩, by omega, by omega⟩
  show b__law_kind [.val .deck, .val (nD k), .val (nD S8), .un, .un, .un, .un, .un, .un] st = _
  rw [hb, Lm.seq_nx (e := envK k m st.ob.length (.val (nD S8)) .un .un .un) (s1 := s2) (by rw [v_asgM, e3]; rfl), Lm.seq_nx (forM_of' er e4)]
  have g1 : s3.ob[st.ob.length]? = some (.lst (rows.map rwD)) := by
    rw [o3, List.getElem?_append_right (Nat.le_refl _), Nat.sub_self]; rfl
  have g2 : s3.ob[st.ob.length + 1]? = some (.lst (ends.map D.bl)) := by
    rw [o3, List.getElem?_append_right (by omega), Nat.add_sub_cancel_left]; rfl
  refine Lm.ret_of ?_
  rw [v_tupM, Lm.cons_of (f := rd 1) (s1 := s3) rfl (Lm.cons_of (tupR (f := rd 4) (s1 := s3) rfl g1) (Lm.cons_of (tupR (f := rd 5) (s1 := s3) rfl g2) v_aNil)), Option.bind_some]
  exact grd_of (show 3 ≤ 1000000 by decide)
end Lw
set_option Elab.async false
set_option linter.all false
set_option maxRecDepth 100000
set_option maxHeartbeats 2000000
namespace Lw
open PySem MD L2 Lc
variable {ww : WW}
theorem forM_of2 {it : MI} {t : MG} {b : MS} {env : Sg} {st s1 : S} {ds : List D} {r : Option (Fl × S)} (h : it env st = some (ds, s1)) (e : forL t b ds env s1 = r) : forM it t b env st = r := by
  rw [v_forM, h]
  exact e
theorem app_of {i : Nat} {f : ME} {env : Sg} {st s1 : S} {ds : List D} {d : D} (he : env[i]? = some (.own (.lst, ds))) (hl : ds.length ≤ 900000) (hf : f env st = some (d, s1)) : appM i f env st = some (.nx (env.set i (.own (.lst, ds ++ [d]))), s1) := by
  rw [v_appM]
  simp only [he]
  rw [grd_of (by omega), hf]; rfl
noncomputable def oneE : ME := (callM m__law_one (aCons (rd 0) (aCons (frz (lstM (aCons (cst (.int 1)) (aCons (cst (.int 1)) (aCons (cst (.int 1)) (aCons (cst (.int 2)) (aCons (cst (.int 3)) (aCons (cst (.int 0)) (aCons (cst (.int 4)) (aCons (cst (.int 9)) aNil)))))))))) aNil)))
theorem oneE_yes {env : Sg} (hd : ∀ s : S, rd 0 env s = some (.deck, s)) : YesO 1 (oneE env) fun x => ∃ n : Nat, x = nD n ∧ n ≤ 9 := fun st h hn => by
  have a1 : frz (lstM (aCons (cst (.int 1)) (aCons (cst (.int 1)) (aCons (cst (.int 1)) (aCons (cst (.int 2)) (aCons (cst (.int 3)) (aCons (cst (.int 0)) (aCons (cst (.int 4)) (aCons (cst (.int 9)) aNil))))))))) env st = some (.lst [nD 1, nD 1, nD 1, nD 2, nD 3, nD 0, nD 4, nD 9], st) :=
    Lm.lst_of (Lm.cons_of rfl (Lm.cons_of rfl (Lm.cons_of rfl (Lm.cons_of rfl (Lm.cons_of rfl (Lm.cons_of rfl (Lm.cons_of rfl (Lm.cons_of rfl v_aNil)))))))) (by simp)
  obtain ⟨d, s1, e, hm, o, l1, l2⟩ := one_lst (ds := [nD 1, nD 1, nD 1, nD 2, nD 3, nD 0, nD 4, nD 9]) (st := st) (by simp) (by simp) h (by omega)
  refine ⟨d, s1, Lm.call_of (Lm.cons_of (hd st) (Lm.cons_of a1 v_aNil)) e, ?_, o, l1, by omega⟩
  simp only [List.mem_cons, List.mem_nil_iff, or_false] at hm
  rcases hm with h | h | h | h | h | h | h | h <;> exact ⟨_, h, by decide⟩
noncomputable def uiB : MS := (appM 2 (cbM tupleM (aCons (frz (compM (r1M (aCons (rd 1) aNil)) (nameT 4) yesM oneE [4])) aNil)))
section
variable {k : Nat} (h4 : k ≤ 4)
include h4
theorem ui_loop : ∀ (ds : List D) (us : List (List Nat)) (x3 x4 : Sl) (st : S), 0 ≤ st.n → st.n + ((ds.length * 4 : Nat) : Int) ≤ nMax → us.length + ds.length ≤ 1000 → (∀ u ∈ us, u.length = k ∧ ∀ n ∈ u, n ≤ 9) →
    ∃ (us' : List (List Nat)) (y3 y4 : Sl) (st' : S), forL (nameT 3) uiB ds [.val .deck, .val (nD k), .own (.lst, us.map unD), x3, x4] st = some (.nx [.val .deck, .val (nD k), .own (.lst, us'.map unD), y3, y4], st') ∧ us'.length = us.length + ds.length ∧ (∀ u ∈ us', u.length = k ∧ ∀ n ∈ u, n ≤ 9) ∧ st'.ob = st.ob ∧ st.n ≤ st'.n ∧ st'.n ≤ st.n + ((ds.length * 4 : Nat) : Int)
  | [], us, x3, x4, st, h0, hn, hl, hu => ⟨us, x3, x4, st, rfl, rfl, hu, rfl, Int.le_refl _, by simp⟩
  | d :: ds, us, x3, x4, st, h0, hn, hl, hu => by
    rw [List.length_cons] at hn hl ⊢
    have hk : ((List.range k).map fun x => D.int ((x : Nat) : Int)).length = k := by simp
    obtain ⟨_, s1, e1, ⟨u, rfl, r1, r2⟩, o1, l1, l2⟩ := compL_yesO (t := nameT 4) (f := oneE) (env := [.val .deck, .val (nD k), .own (.lst, us.map unD), .val d, .un]) (k := 1) (F := nD) (P := fun n => n ≤ 9) ((List.range k).map fun x => D.int ((x : Nat) : Int)) (fun z _ => ⟨[.val .deck, .val (nD k), .own (.lst, us.map unD), .val d, .val z], rfl, oneE_yes (fun s => rfl)⟩) st h0 (by rw [hk]; omega)
    rw [hk] at l2 r1
    have er : r1M (aCons (rd 1) aNil) [.val .deck, .val (nD k), .own (.lst, us.map unD), .val d, x4] st = some ((List.range k).map fun x => D.int ((x : Nat) : Int), st) := Lh.r1_of (f := rd 1) (s1 := st) rfl (by omega)
    have ec : frz (compM (r1M (aCons (rd 1) aNil)) (nameT 4) yesM oneE [4]) [.val .deck, .val (nD k), .own (.lst, us.map unD), .val d, x4] st = some (.lst (u.map nD), s1) := by
      rw [v_frz, v_compM, er, Option.bind_some]
      show (grd _ (compL _ _ _ [.val .deck, .val (nD k), .own (.lst, us.map unD), .val d, .un] _ st)).map _ = _
      rw [grd_of (by rw [hk]; omega), e1]; rfl
    obtain ⟨us', y3, y4, s2, e2, q1, q2, o2, l3, l4⟩ := ui_loop ds (us ++ [u]) (.val d) x4 s1 (by omega) (by omega) (by simp; omega) fun v hv => by
      rcases List.mem_append.mp hv with h | h
      · exact hu v h
      · rw [List.mem_singleton.mp h]; exact ⟨r1, r2⟩
    refine ⟨us', y3, y4, s2, ?_, by rw [q1, List.length_append]; simp; omega, q2, o2.trans o1, by omega, by omega⟩
    have et : nameT 3 d [.val .deck, .val (nD k), .own (.lst, us.map unD), x3, x4] = some [.val .deck, .val (nD k), .own (.lst, us.map unD), .val d, x4] := rfl
    have ea := app_of (i := 2) (env := [.val .deck, .val (nD k), .own (.lst, us.map unD), .val d, x4]) (ds := us.map unD) rfl (by rw [List.length_map]; omega) (tup_lst ec)
    have ea' : uiB [.val .deck, .val (nD k), .own (.lst, us.map unD), .val d, x4] st = some (.nx [.val .deck, .val (nD k), .own (.lst, (us ++ [u]).map unD), .val d, x4], s1) := by
      rw [List.map_append]
      exact ea
    rw [v_forL, et, Option.bind_some, ea', Option.bind_some]
    exact e2
theorem units_yes : YesO 9 (m__law_units [.deck, nD k]) fun d => ∃ us : List (List Nat), d = .tup (us.map unD) ∧ 1 ≤ us.length ∧ us.length ≤ 2 ∧ ∀ u ∈ us, u.length = k ∧ ∀ n ∈ u, n ≤ 9 := by
  intro st h0 hn
  have hb : b__law_units = (seqM (ownM 2 (lstM aNil))
    (seqM (forM (r1M (aCons (opM addM (cst (.int 1)) (callM m__law_draw (aCons (rd 0) (aCons (cst (.int 2)) aNil)))) aNil)) (nameT 3) uiB)
    (retM (cbM tupleM (aCons (rdW 2) aNil))))) := rfl
  obtain ⟨_, s1, e1, ⟨q, rfl, hq⟩, o1, l1, l2⟩ := drw (f := cst (.int 2)) (m := 2) (env := [.val .deck, .val (nD k), .own (.lst, []), .un, .un]) (by decide) (by decide) (fun s => rfl) (fun s => rfl) st h0 (by omega)
  obtain ⟨m, hm⟩ : ∃ m : Nat, m = 1 + q := ⟨_, rfl⟩
  have em : (1 : Int) + ((q : Nat) : Int) = ((m : Nat) : Int) := by omega
  have e2 : opM addM (cst (.int 1)) (callM m__law_draw (aCons (rd 0) (aCons (cst (.int 2)) aNil))) [.val .deck, .val (nD k), .own (.lst, []), .un, .un] st = some (nD m, s1) := by
    rw [Lh.int_add (f := cst (.int 1)) (i := 1) (s1 := st) rfl e1, em]
  have er := Lh.r1_of e2 (by omega)
  have hml : ((List.range m).map fun x => D.int ((x : Nat) : Int)).length = m := by simp
  obtain ⟨us, y3, y4, s2, e3, r1, r2, o2, l3, l4⟩ := ui_loop h4 ((List.range m).map fun x => D.int ((x : Nat) : Int)) [] .un .un s1 (by omega) (by rw [hml]; omega) (by rw [hml]; simp; omega) (fun u h => nomatch h)
  rw [hml] at r1 l4
  have r1 : us.length = m := by simpa using r1
  refine ⟨_, s2, Lm.run_of ?_, ⟨us, rfl, by omega, by omega, r2⟩, o2.trans o1, by omega, by omega⟩
  show b__law_units [.val .deck, .val (nD k), .un, .un, .un] st = _
  have eo : ownM 2 (lstM aNil) [.val .deck, .val (nD k), .un, .un, .un] st = some (.nx [.val .deck, .val (nD k), .own (.lst, []), .un, .un], st) := Lm.own_nx (a := lstM aNil) (ds := []) (by
    rw [v_lstM, v_aNil, Option.bind_some]
    exact grd_of (show 0 ≤ 1000000 by decide))
  rw [hb, Lm.seq_nx eo, Lm.seq_nx (forM_of2 er e3)]
  exact Lm.ret_of (tup_lst (f := rdW 2) (s1 := s2) rfl)
end
theorem nodup_ltr (k : Nat) : (ltr k).Nodup := by
  refine List.Pairwise.map _ ?_ List.nodup_range
  intro a b h
  omega
noncomputable def clC : MT := (tstM (opM eqM (callM m__law_draw (aCons (rd 0) (aCons (cst (.int 4)) aNil))) (cst (.int 0))))
theorem clC_yes {env : Sg} (hd : ∀ s : S, rd 0 env s = some (.deck, s)) : YesO 1 (clC env) fun _ => True := fun st h hn => by
  obtain ⟨_, s1, e1, ⟨r, rfl, hr⟩, o1, l1, l2⟩ := drw (f := cst (.int 4)) (m := 4) (env := env) (by decide) (by decide) hd (fun s => rfl) st h (by omega)
  exact ⟨_, s1, Lh.eq_int (h := cst (.int 0)) (j := 0) (s2 := s1) e1 rfl, trivial, o1, l1, l2⟩
noncomputable def CuOk (k u : Nat) (c : Nat × Nat × List Nat) : Prop := c.1 < u ∧ c.2.1 ≤ 20 ∧ c.2.2 = (ltr k).filter fun x => decide (x ∈ c.2.2)
theorem cut_yes {k T : Nat} (h4 : k ≤ 4) (hT : T ≤ 20) {us : List D} (hu0 : 1 ≤ us.length) (hu : us.length ≤ 2) : YesO 6 (m__law_cut [.deck, nD k, .tup us, nD T]) fun d => ∃ c, d = cuD c ∧ CuOk k us.length c := by
  intro st h0 hn
  have hb : b__law_cut = (seqM (asgM (nameT 4) (m1M joinM (cst (.str "")) (frz (compM (seqI (slM slAny (cst (.str "abcd")) noP (prt (rd 1)))) (nameT 5) clC (rd 5) [5]))))
    (retM (tupM (aCons (callM m__law_draw (aCons (rd 0) (aCons (cbM lenA (aCons (rd 2) aNil)) aNil))) (aCons (callM m__law_draw (aCons (rd 0) (aCons (opM addM (rd 3) (cst (.int 1))) aNil))) (aCons (rd 4) aNil)))))) := rfl
  have hl : (ltr k).length = k := by simp
  obtain ⟨_, s1, e1, ⟨cl, rfl, hsub⟩, o1, l1, l2⟩ := compL_subO (t := nameT 5) (c := clC) (f := rd 5) (env := [.val .deck, .val (nD k), .val (.tup us), .val (nD T), .un, .un]) (k := 1) (F := fun c => D.str (W [c])) (G := fun c => D.str (W [c])) (ltr k) (fun c _ => ⟨[.val .deck, .val (nD k), .val (.tup us), .val (nD T), .un, .val (.str (W [c]))], rfl, clC_yes (fun s => rfl), fun s => rfl⟩) st h0 (nw hn (by rw [hl]; omega))
  rw [hl] at l2
  have l2 := nu (c := 4) l2 (by omega)
  have es : slM slAny (cst (.str "abcd")) noP (prt (rd 1)) [.val .deck, .val (nD k), .val (.tup us), .val (nD T), .un, .un] st = some (.str (W (ltr k)), st) := by
    have := sl_to (f := cst (.str "abcd")) (h := rd 1) (env := [.val .deck, .val (nD k), .val (.tup us), .val (nD T), .un, .un]) (st := st) (s2 := st) (p := k) (str_of s_abcd) rfl (by decide)
    have e4 : (ltr 4).take k = ltr k := by
      have hk : k = 0 ∨ k = 1 ∨ k = 2 ∨ k = 3 ∨ k = 4 := by omega
      rcases hk with h | h | h | h | h <;> (subst h; decide)
    rw [e4] at this
    exact this
  have ec : frz (compM (seqI (slM slAny (cst (.str "abcd")) noP (prt (rd 1)))) (nameT 5) clC (rd 5) [5]) [.val .deck, .val (nD k), .val (.tup us), .val (nD T), .un, .un] st = some (.lst ((cl.map fun c => [c]).map fun p => D.str (W p)), s1) := by
    rw [v_frz, v_compM, signs_of es, Option.bind_some]
    show (grd _ (compL _ _ _ [.val .deck, .val (nD k), .val (.tup us), .val (nD T), .un, .un] _ st)).map _ = _
    rw [grd_of (by rw [List.length_map, hl]; omega), e1, List.map_map]; rfl
  have hcl : cl.length ≤ 4 := Nat.le_trans hsub.length_le (by rw [hl]; exact h4)
  have ej := join_of (f := cst (.str "")) (s := []) (s1 := st) (ps := cl.map fun c => [c]) (show cst (.str "") [.val .deck, .val (nD k), .val (.tup us), .val (nD T), .un, .un] st = _ from str_of (by decide +kernel)) ec (by
    have := sum_le (cl.map fun c => [c]) 1 (fun p hp => by
      obtain ⟨c, _, rfl⟩ := List.mem_map.mp hp
      exact Nat.le_refl _)
    rw [List.length_map] at this
    simp only [List.length_nil, Nat.mul_zero, Nat.add_zero]
    omega)
  rw [joinL_one] at ej
  have el : cbM lenA (aCons (rd 2) aNil) [.val .deck, .val (nD k), .val (.tup us), .val (nD T), .val (.str (W cl)), .un] s1 = some (nD us.length, s1) := lenT (f := rd 2) (s1 := s1) rfl
  obtain ⟨_, s2, e2, ⟨i, rfl, hi⟩, o2, l3, l4⟩ := drw (f := cbM lenA (aCons (rd 2) aNil)) (m := us.length) (env := [.val .deck, .val (nD k), .val (.tup us), .val (nD T), .val (.str (W cl)), .un]) hu0 (by omega) (fun s => rfl) (fun s => lenT (f := rd 2) (s1 := s) rfl) s1 (Int.le_trans h0 l1) (nb hn l2 (by decide))
  have l24 := nl (c := 5) l2 l4 (by decide)
  obtain ⟨_, s3, e3, ⟨b, rfl, hb2⟩, o3, l5, l6⟩ := drw (f := opM addM (rd 3) (cst (.int 1))) (m := T + 1) (env := [.val .deck, .val (nD k), .val (.tup us), .val (nD T), .val (.str (W cl)), .un]) (by omega) (by omega) (fun s => rfl) (fun s => Lh.int_add (f := rd 3) (i := ((T : Nat) : Int)) (j := 1) (s1 := s) rfl rfl) s2 (Int.le_trans h0 (Int.le_trans l1 l3)) (nb hn l24 (by decide))
  refine ⟨_, s3, Lm.run_of ?_, ⟨(i, b, cl), rfl, hi, by show b ≤ 20; omega, fil_sub hsub (nodup_ltr k)⟩, o3.trans (o2.trans o1), Int.le_trans l1 (Int.le_trans l3 l5), nl l24 l6 (by decide)⟩
  show b__law_cut [.val .deck, .val (nD k), .val (.tup us), .val (nD T), .un, .un] st = _
  rw [hb, Lm.seq_nx (e := [.val .deck, .val (nD k), .val (.tup us), .val (nD T), .val (.str (W cl)), .un]) (Lm.asg_nx ej)]
  refine Lm.ret_of ?_
  rw [v_tupM, Lm.cons_of e2 (Lm.cons_of e3 (Lm.cons_of (f := rd 4) (s1 := s3) rfl v_aNil)), Option.bind_some]
  exact grd_of (show 3 ≤ 1000000 by decide)
noncomputable def cuE : ME := (callM m__law_cut (aCons (rd 0) (aCons (rd 3) (aCons (rd 5) (aCons (rd 2) aNil)))))
theorem scheme_yes {S8 T : Nat} (hS : 1 ≤ S8) (hS8 : S8 ≤ 8) (hT : T ≤ 20) : Yes 120 (m__law_scheme [.deck, nD S8, nD T]) fun d => ∃ s : Sm, d = smD s ∧ s.Ok := by
  intro st h0 hn
  have hb : b__law_scheme = (seqM (asgM (nameT 3) (opM addM (cst (.int 1)) (callM m__law_draw (aCons (rd 0) (aCons (cst (.int 4)) aNil)))))
    (seqM (asgM (tupT 2 (consT (nameT 4) (consT (nameT 5) nilT))) (tupM (aCons (callM m__law_kind (aCons (rd 0) (aCons (rd 3) (aCons (rd 1) aNil)))) (aCons (callM m__law_units (aCons (rd 0) (aCons (rd 3) aNil))) aNil))))
    (retM (tupM (aCons (rd 4) (aCons (rd 5) (aCons (cbM tupleM (aCons (frz (compM (r1M (aCons (callM m__law_draw (aCons (rd 0) (aCons (cst (.int 4)) aNil))) aNil)) (nameT 6) yesM cuE [6])) aNil)) aNil))))))) := rfl
  obtain ⟨_, s1, e1, ⟨q, rfl, hq⟩, o1, l1, l2⟩ := drw (f := cst (.int 4)) (m := 4) (env := [.val .deck, .val (nD S8), .val (nD T), .un, .un, .un, .un]) (by decide) (by decide) (fun s => rfl) (fun s => rfl) st h0 (nw hn (by decide))
  obtain ⟨k, hk⟩ : ∃ k : Nat, k = 1 + q := ⟨_, rfl⟩
  have ek : (1 : Int) + ((q : Nat) : Int) = ((k : Nat) : Int) := by omega
  have h4 : k ≤ 4 := by omega
  have e2 : opM addM (cst (.int 1)) (callM m__law_draw (aCons (rd 0) (aCons (cst (.int 4)) aNil))) [.val .deck, .val (nD S8), .val (nD T), .un, .un, .un, .un] st = some (nD k, s1) := by
    rw [Lh.int_add (f := cst (.int 1)) (i := 1) (s1 := st) rfl e1, ek]
  obtain ⟨_, s2, e3, ⟨rows, ends, rfl, w1, w2, w3, w4⟩, l3, l4⟩ := kind_yes h4 hS hS8 s1 (Int.le_trans h0 l1) (nb hn l2 (by decide))
  have m2 := nl (c := 82) l2 l4 (by decide)
  have p2 := Int.le_trans l1 l3
  obtain ⟨_, s3, e4, ⟨us, rfl, u1, u2, u3⟩, o3, l5, l6⟩ := units_yes h4 s2 (Int.le_trans h0 p2) (nb hn m2 (by decide))
  have m3 := nl (c := 91) m2 l6 (by decide)
  have p3 := Int.le_trans p2 l5
  obtain ⟨K, hK⟩ : ∃ K : D, K = .tup [nD k, .tup (rows.map rwD), .tup (ends.map D.bl)] := ⟨_, rfl⟩
  rw [← hK] at e3
  have e5 : tupM (aCons (callM m__law_kind (aCons (rd 0) (aCons (rd 3) (aCons (rd 1) aNil)))) (aCons (callM m__law_units (aCons (rd 0) (aCons (rd 3) aNil))) aNil)) [.val .deck, .val (nD S8), .val (nD T), .val (nD k), .un, .un, .un] s1 = some (.tup [K, .tup (us.map unD)], s3) :=
    Lh.tup2 (Lm.call_of (Lm.cons_of (f := rd 0) (s1 := s1) rfl (Lm.cons_of (f := rd 3) (s1 := s1) rfl (Lm.cons_of (f := rd 1) (s1 := s1) rfl v_aNil))) e3) (Lm.call_of (Lm.cons_of (f := rd 0) (s1 := s2) rfl (Lm.cons_of (f := rd 3) (s1 := s2) rfl v_aNil)) e4)
  obtain ⟨_, s4, e6, ⟨m, rfl, hm⟩, o4, l7, l8⟩ := drw (f := cst (.int 4)) (m := 4) (env := [.val .deck, .val (nD S8), .val (nD T), .val (nD k), .val K, .val (.tup (us.map unD)), .un]) (by decide) (by decide) (fun s => rfl) (fun s => rfl) s3 (Int.le_trans h0 p3) (nb hn m3 (by decide))
  have m4 := nl (c := 92) m3 l8 (by decide)
  have p4 := Int.le_trans p3 l7
  have er := Lh.r1_of e6 (by omega)
  have hml : ((List.range m).map fun x => D.int ((x : Nat) : Int)).length = m := by simp
  obtain ⟨_, s5, e7, ⟨cs, rfl, c1, c2⟩, o5, l9, l10⟩ := compL_yesO (t := nameT 6) (f := cuE) (env := [.val .deck, .val (nD S8), .val (nD T), .val (nD k), .val K, .val (.tup (us.map unD)), .un]) (k := 6) (F := cuD) (P := CuOk k (us.map unD).length) ((List.range m).map fun x => D.int ((x : Nat) : Int)) (fun z _ => ⟨[.val .deck, .val (nD S8), .val (nD T), .val (nD k), .val K, .val (.tup (us.map unD)), .val z], rfl, fun st h0 hn => by
    obtain ⟨d, s', e, p⟩ := cut_yes h4 hT (us := us.map unD) (by rw [List.length_map]; omega) (by rw [List.length_map]; omega) st h0 hn
    exact ⟨d, s', Lm.call_of (Lm.cons_of (f := rd 0) (s1 := st) rfl (Lm.cons_of (f := rd 3) (s1 := st) rfl (Lm.cons_of (f := rd 5) (s1 := st) rfl (Lm.cons_of (f := rd 2) (s1 := st) rfl v_aNil)))) e, p⟩⟩) s4 (Int.le_trans h0 p4) (nb hn m4 (by rw [hml]; omega))
  rw [hml] at c1 l10
  have ec : frz (compM (r1M (aCons (callM m__law_draw (aCons (rd 0) (aCons (cst (.int 4)) aNil))) aNil)) (nameT 6) yesM cuE [6]) [.val .deck, .val (nD S8), .val (nD T), .val (nD k), .val K, .val (.tup (us.map unD)), .un] s3 = some (.lst (cs.map cuD), s5) := by
    rw [v_frz, v_compM, er, Option.bind_some]
    show (grd _ (compL _ _ _ [.val .deck, .val (nD S8), .val (nD T), .val (nD k), .val K, .val (.tup (us.map unD)), .un] _ s4)).map _ = _
    rw [grd_of (by rw [hml]; omega), e7]; rfl
  refine ⟨smD ⟨k, rows, ends, us, cs⟩, s5, Lm.run_of ?_, ⟨_, rfl, ⟨by show 1 ≤ k; omega, h4, w1, w2, w4, w3, u1, u2, u3, by show cs.length ≤ 3; omega, fun c hc => by
    have := c2 c hc
    unfold CuOk at this
    rw [List.length_map] at this
    exact this⟩⟩, Int.le_trans p4 l9, nl m4 l10 (by omega)⟩
  show b__law_scheme [.val .deck, .val (nD S8), .val (nD T), .un, .un, .un, .un] st = _
  rw [hb, Lm.seq_nx (e := [.val .deck, .val (nD S8), .val (nD T), .val (nD k), .un, .un, .un]) (Lm.asg_nx e2), Lm.seq_nx (e := [.val .deck, .val (nD S8), .val (nD T), .val (nD k), .val K, .val (.tup (us.map unD)), .un]) (Lh.asgT2 e5)]
  refine Lm.ret_of ?_
  rw [v_tupM, Lm.cons_of (f := rd 4) (s1 := s3) rfl (Lm.cons_of (f := rd 5) (s1 := s3) rfl (Lm.cons_of (tup_lst ec) v_aNil)), Option.bind_some]
  have : smD ⟨k, rows, ends, us, cs⟩ = .tup [K, .tup (us.map unD), .tup (cs.map cuD)] := by rw [hK]; rfl
  rw [this]
  exact grd_of (show 3 ≤ 1000000 by decide)
end Lw
set_option Elab.async false
set_option linter.all false
set_option maxRecDepth 100000
set_option maxHeartbeats 1000000
namespace Lw
open PySem MD L2 Lc
structure G0 (d : D) (n : Nat) : Prop where
  ql : d.ql = true
  sh : d.qy.showable = true
  dp : d.qy.depth ≤ n
  lf : d.qy.leavesShort 50 = true
noncomputable def bk (d : D) : Nat := d.qy.bulk
noncomputable def bks' (ds : List D) : Nat := (ds.map fun d => bk d + 1).sum
structure Gd (d : D) (n b : Nat) : Prop where
  g : G0 d n
  k : bk d ≤ b
structure Gds (ds : List D) (n b : Nat) : Prop where
  g : ∀ d ∈ ds, G0 d n
  k : bks' ds ≤ b
theorem G0.mono {d : D} {n n' : Nat} (h : G0 d n) (hn : n ≤ n') : G0 d n' := ⟨h.ql, h.sh, Nat.le_trans h.dp hn, h.lf⟩
theorem Gd.mono {d : D} {n b n' b' : Nat} (h : Gd d n b) (hn : n ≤ n') (hb : b ≤ b') : Gd d n' b' := ⟨h.g.mono hn, Nat.le_trans h.k hb⟩
theorem Gds.mono {d : List D} {n b n' b' : Nat} (h : Gds d n b) (hn : n ≤ n') (hb : b ≤ b') : Gds d n' b' := ⟨fun x hx => (h.g x hx).mono hn, Nat.le_trans h.k hb⟩
theorem Gd.non : Gd .non 0 0 := ⟨⟨rfl, by simp [D.qy, PyData.showable], by simp [D.qy, PyData.depth], by simp [D.qy, PyData.leavesShort]⟩, by simp [bk, D.qy, PyData.bulk]⟩
theorem Gd.bl (c : Bool) : Gd (.bl c) 0 0 := ⟨⟨rfl, by simp [D.qy, PyData.showable], by simp [D.qy, PyData.depth], by simp [D.qy, PyData.leavesShort]⟩, by simp [bk, D.qy, PyData.bulk]⟩
theorem Gd.dic : Gd (.dic [] []) 1 0 := ⟨⟨rfl, by simp [D.qy, PyData.showable, PyData.showableKv], by simp [D.qy, PyData.depth, PyData.depthKv], by simp [D.qy, PyData.leavesShort, PyData.leavesShortKv]⟩, by simp [bk, D.qy, PyData.bulk, PyData.bulkKv]⟩
theorem Gd.int {i : Int} (h : i.natAbs < 10 ^ 44) : Gd (.int i) 0 0 := by
  refine ⟨⟨rfl, ?_, by simp [D.qy, PyData.depth], ?_⟩, by simp [bk, D.qy, PyData.bulk]⟩
  · simp only [D.qy, PyData.showable, decide_eq_true_eq]
    by_cases h0 : i.natAbs = 0
    · rw [h0]; decide
    · have h1 : i.natAbs.log2 < 150 := (Nat.log2_lt h0).mpr (Nat.lt_of_lt_of_le h (by decide))
      omega
  · simp only [D.qy, PyData.leavesShort, decide_eq_true_eq]
    have e := int_text_length_le10 (k := 44) (by decide) h
    show (Str.ofString (toString i)).length ≤ 50
    rw [ofString_length]; omega
theorem Gd.nat {n : Nat} (h : n ≤ 1000000) : Gd (nD n) 0 0 := Gd.int (by
  rw [Int.natAbs_natCast]
  exact Nat.lt_of_le_of_lt h (by decide))
theorem Gd.str {x : Str} {b : Nat} (h : x.cps.toList.all (fun c => decide (c < 16 ^ 8)) = true) (hb : x.cps.size ≤ b) : Gd (.str x) 0 b := by
  refine ⟨⟨rfl, by simp [D.qy, PyData.showable], by simp [D.qy, PyData.depth], ?_⟩, by simpa [bk, D.qy, PyData.bulk] using hb⟩
  simpa only [D.qy, PyData.leavesShort] using h
theorem qlAll_of {ds : List D} (h : ∀ d ∈ ds, d.ql = true) : qlAll ds = true := by
  induction ds with
  | nil => rfl
  | cons x r ih =>
    show (x.ql && qlAll r) = true
    rw [h x List.mem_cons_self, ih fun y hy => h y (List.mem_cons_of_mem _ hy)]; rfl
theorem shAll_of {ds : List D} (h : ∀ d ∈ ds, d.qy.showable = true) : PyData.showableAll (qyAll ds) = true := by
  induction ds with
  | nil => rfl
  | cons x r ih =>
    show (x.qy.showable && PyData.showableAll (qyAll r)) = true
    rw [h x List.mem_cons_self, ih fun y hy => h y (List.mem_cons_of_mem _ hy)]; rfl
theorem lfAll_of {ds : List D} (h : ∀ d ∈ ds, d.qy.leavesShort 50 = true) : PyData.leavesShortAll 50 (qyAll ds) = true := by
  induction ds with
  | nil => rfl
  | cons x r ih =>
    show (x.qy.leavesShort 50 && PyData.leavesShortAll 50 (qyAll r)) = true
    rw [h x List.mem_cons_self, ih fun y hy => h y (List.mem_cons_of_mem _ hy)]; rfl
theorem dpAll_of {n : Nat} {ds : List D} (h : ∀ d ∈ ds, d.qy.depth ≤ n) : PyData.depthAll (qyAll ds) ≤ n := by
  induction ds with
  | nil => exact Nat.zero_le _
  | cons x r ih =>
    show max x.qy.depth (PyData.depthAll (qyAll r)) ≤ n
    exact Nat.max_le.mpr ⟨h x List.mem_cons_self, ih fun y hy => h y (List.mem_cons_of_mem _ hy)⟩
theorem bkAll_eq (ds : List D) : PyData.bulkAll (qyAll ds) = bks' ds := by
  induction ds with
  | nil => rfl
  | cons x r ih =>
    show x.qy.bulk + 1 + PyData.bulkAll (qyAll r) = _
    rw [ih]; rfl
theorem Gd.lst {ds : List D} {n b : Nat} (h : Gds ds n b) : Gd (.lst ds) (n + 1) b := by
  refine ⟨⟨qlAll_of fun d hd => (h.g d hd).ql, shAll_of fun d hd => (h.g d hd).sh, ?_, lfAll_of fun d hd => (h.g d hd).lf⟩, ?_⟩
  · have := dpAll_of fun d hd => (h.g d hd).dp
    simp only [D.qy, PyData.depth]
    omega
  · have := bkAll_eq ds
    show PyData.bulkAll (qyAll ds) ≤ b
    rw [this]; exact h.k
theorem Gd.tup {ds : List D} {n b : Nat} (h : Gds ds n b) : Gd (.tup ds) (n + 1) b := by
  refine ⟨⟨qlAll_of fun d hd => (h.g d hd).ql, shAll_of fun d hd => (h.g d hd).sh, ?_, lfAll_of fun d hd => (h.g d hd).lf⟩, ?_⟩
  · have := dpAll_of fun d hd => (h.g d hd).dp
    simp only [D.qy, PyData.depth]
    omega
  · have := bkAll_eq ds
    show PyData.bulkAll (qyAll ds) ≤ b
    rw [this]; exact h.k
theorem Gds.nil {n b : Nat} : Gds [] n b := ⟨(fun _ h => nomatch h), Nat.zero_le _⟩
theorem Gds.cons {d : D} {ds : List D} {n b c : Nat} (h : Gd d n b) (hs : Gds ds n c) : Gds (d :: ds) n (b + 1 + c) := by
  refine ⟨fun x hx => ?_, ?_⟩
  · rcases List.mem_cons.mp hx with z | z
    · rw [z]; exact h.g
    · exact hs.g x z
  · show bk d + 1 + bks' ds ≤ _
    have := h.k
    have := hs.k
    omega
theorem bks_app (a b : List D) : bks' (a ++ b) = bks' a + bks' b := by unfold bks'; rw [List.map_append, List.sum_append]
theorem Gds.app {a b : List D} {n c e : Nat} (h : Gds a n c) (h' : Gds b n e) : Gds (a ++ b) n (c + e) := by
  refine ⟨fun x hx => ?_, by rw [bks_app]; exact Nat.add_le_add h.k h'.k⟩
  rcases List.mem_append.mp hx with z | z
  · exact h.g x z
  · exact h'.g x z
theorem Gds.all {n b : Nat} {ds : List D} (h : ∀ d ∈ ds, Gd d n b) : Gds ds n (ds.length * (b + 1)) := by
  refine ⟨fun x hx => (h x hx).g, ?_⟩
  induction ds with
  | nil => exact Nat.zero_le _
  | cons x r ih =>
    have h1 := (h x List.mem_cons_self).k
    have h2 := ih fun y hy => h y (List.mem_cons_of_mem _ hy)
    show bk x + 1 + bks' r ≤ _
    rw [List.length_cons, Nat.succ_mul]
    omega
theorem reprQ_gd {d : D} {n b : Nat} (h : Gd d n b) (hn : n ≤ 60) (hb : b ≤ 15000) : reprQ [d] = some (.str d.qy.shown) := by
  have h3 : d.qy.depth ≤ 60 := Nat.le_trans h.g.dp hn
  have h4 : d.qy.shown.length ≤ sizeLine := by
    have h1 := PyData.shown_le_bulk 50 (by decide) d.qy h.g.lf
    have h2 : (50 + 2) * d.qy.bulk ≤ 52 * 15000 := Nat.mul_le_mul (by decide) (Nat.le_trans h.k hb)
    exact Nat.le_trans h1 (Nat.le_trans (show (50 + 2) * d.qy.bulk + 50 ≤ 900000 by omega) (by decide))
  show (if d.ql && d.qy.showable && decide (d.qy.depth ≤ 60) && decide (d.qy.shown.length ≤ sizeLine) then some (D.str d.qy.shown) else none) = _
  rw [h.g.ql, h.g.sh, decide_eq_true h3, decide_eq_true h4]
  rfl
theorem G0.dr {d : D} {n : Nat} (h : G0 d n) (st : S) : dr st d = d := dr_of fun m e => by
  have := h.ql
  rw [e] at this
  cases this
end Lw
set_option Elab.async false
set_option linter.all false
set_option maxRecDepth 100000
set_option maxHeartbeats 1000000
namespace Lw
open PySem MD L2 Lc
noncomputable abbrev lrs (k : Nat) : List Nat := (List.range k).map (97 + ·)
noncomputable def isIn (d : D) (lo hi : Int) : Bool := match d with
  | .int i => decide (lo ≤ i ∧ i ≤ hi)
  | _ => false
noncomputable def isTup : D → Bool
  | .tup _ => true
  | _ => false
noncomputable def isStrB : D → Bool
  | .str _ => true
  | _ => false
noncomputable def clB (k : Nat) (ws : List Nat) : Bool := decide (ws = (lrs k).filter fun x => decide (x ∈ ws))
noncomputable def clD (k : Nat) (d : D) : Bool := match d with
  | .str s => clB k s.cps.toList
  | _ => false
noncomputable def isC (k U : Nat) (v : D) : Bool := match v with
  | .tup [a, b, c] => (isIn a 0 ((U : Int) - 1) && isIn b 0 20) && clD k c
  | _ => false
noncomputable def badAt (k U : Nat) (ds : List D) : Option Nat := ds.findIdx? fun x => !isC k U x
noncomputable def cerr (k U : Nat) (v : D) : D := match v with
  | .tup ds => match badAt k U ds with
    | some i => .tup [nD i, .str "cut"]
    | none => if 3 < ds.length then .tup [.non, .str "many"] else .non
  | _ => .tup [.non, .str "cuts"]
structure Cz (k U : Nat) (cs : List D) : Prop where
  n3 : cs.length ≤ 3
  ok : ∀ c ∈ cs, isC k U c = true
theorem isC_other {k U : Nat} {v : D} (h : ∀ a b c, v ≠ .tup [a, b, c]) : isC k U v = false := by
  unfold isC
  split
  · rename_i a b c
    exact absurd rfl (h a b c)
  · rfl
theorem three_of {ds : List D} (h : ds.length = 3) : ∃ a b c, ds = [a, b, c] := by
  match ds, h with
  | [a, b, c], _ => exact ⟨a, b, c, rfl⟩
theorem W_of' (s : Str) : W s.cps.toList = s := by
  apply TL.ext_tl
  show (W s.cps.toList).cps.toList = _
  rw [W_list]
theorem isIn_form {d : D} {lo hi : Int} (h : isIn d lo hi = true) (h0 : 0 ≤ lo) : ∃ n : Nat, d = nD n ∧ lo ≤ (n : Int) ∧ (n : Int) ≤ hi := by
  cases d with
  | int i =>
    have := of_decide_eq_true h
    refine ⟨i.toNat, ?_, by omega, by omega⟩
    show D.int i = D.int _
    rw [Int.toNat_of_nonneg (by omega)]
  | _ => cases h
theorem clB_small {k : Nat} (hk : k ≤ 4) {ws : List Nat} (h : clB k ws = true) : ws.length ≤ 4 ∧ ∀ c ∈ ws, c < 128 := by
  have h : ws = _ := of_decide_eq_true h
  constructor
  · rw [h]
    refine Nat.le_trans (List.length_filter_le _ _) ?_
    rw [List.length_map, List.length_range]; exact hk
  · intro c hc
    rw [h] at hc
    obtain ⟨i, hi, rfl⟩ := List.mem_map.mp (List.mem_filter.mp hc).1
    have := List.mem_range.mp hi
    show 97 + i < 128
    omega
/-- what a cut is -/
theorem isC_form {k U : Nat} {v : D} (h : isC k U v = true) : ∃ (u m : Nat) (ws : List Nat), v = .tup [nD u, nD m, .str (W ws)] ∧ u < U ∧ m ≤ 20 ∧ clB k ws = true := by
  unfold isC at h
  split at h
  · rename_i a b c
    rw [Bool.and_eq_true, Bool.and_eq_true] at h
    obtain ⟨⟨h1, h2⟩, h3⟩ := h
    obtain ⟨u, rfl, _, hu⟩ := isIn_form h1 (Int.le_refl _)
    obtain ⟨m, rfl, _, hm⟩ := isIn_form h2 (Int.le_refl _)
    cases c with
    | str s => exact ⟨u, m, s.cps.toList, by rw [W_of'], by omega, by omega, h3⟩
    | _ => cases h3
  · cases h
theorem isC_ql {k U : Nat} {v : D} (h : isC k U v = true) : v.ql = true := by
  obtain ⟨u, m, ws, rfl, _⟩ := isC_form h
  rfl
theorem isC_gd {k U : Nat} (hk : k ≤ 4) (hU : U ≤ 2) {v : D} (h : isC k U v = true) : Gd v 1 7 := by
  obtain ⟨u, m, ws, rfl, hu, hm, hw⟩ := isC_form h
  obtain ⟨w1, w2⟩ := clB_small hk hw
  have gs : Gd (.str (W ws)) 0 4 := Gd.str (by
    rw [W_list, List.all_eq_true]
    intro c hc
    exact decide_eq_true (Nat.lt_trans (w2 c hc) (by decide))) (by rw [← Array.length_toList, W_list]; exact w1)
  exact Gd.tup (Gds.cons (Gd.nat (by omega)) (Gds.cons (Gd.nat (by omega)) (Gds.cons gs (Gds.nil (b := 0)))))
theorem Cz.gd {k U : Nat} {cs : List D} (h : Cz k U cs) (hk : k ≤ 4) (hU : U ≤ 2) : Gd (.tup cs) 2 24 := by
  have := Gds.all (ds := cs) (n := 1) (b := 7) fun d hd => isC_gd hk hU (h.ok d hd)
  have h3 := h.n3
  exact (Gd.tup this).mono (Nat.le_refl _) (by omega)
theorem qlA {ds : List D} (h : ∀ d ∈ ds, d.ql = true) : (D.tup ds).ql = true := qlAll_of h
theorem Cz.ql {k U : Nat} {cs : List D} (h : Cz k U cs) : ∀ d ∈ cs, d.ql = true := fun d hd => isC_ql (h.ok d hd)
theorem dr_ql {d : D} (h : d.ql = true) (st : S) : dr st d = d := dr_of fun m e => by
  rw [e] at h
  cases h
theorem ql_mem {ds : List D} (h : (D.tup ds).ql = true) {x : D} (hx : x ∈ ds) : x.ql = true := by
  have h : qlAll ds = true := h
  induction ds with
  | nil => cases hx
  | cons y r ih =>
    have h' : (y.ql && qlAll r) = true := h
    rw [Bool.and_eq_true] at h'
    rcases List.mem_cons.mp hx with z | z
    · rw [z]; exact h'.1
    · exact ih h'.2 z h'.2
theorem cerr_iff {k U : Nat} {cs : List D} : nonD (cerr k U (.tup cs)) = true ↔ Cz k U cs := by
  unfold cerr
  dsimp only
  cases hb : badAt k U cs with
  | some i =>
    refine ⟨fun h => (by cases h), fun h => ?_⟩
    unfold badAt at hb
    obtain ⟨hi, hx, _⟩ := List.findIdx?_eq_some_iff_getElem.mp hb
    rw [h.ok _ (List.getElem_mem hi)] at hx
    cases hx
  | none =>
    unfold badAt at hb
    rw [List.findIdx?_eq_none_iff] at hb
    dsimp only
    by_cases h3 : 3 < cs.length
    · rw [if_pos h3]
      exact ⟨fun h => (by cases h), fun h => absurd h.n3 (by omega)⟩
    · rw [if_neg h3]
      refine ⟨fun _ => ⟨by omega, fun c hc => ?_⟩, fun _ => rfl⟩
      have := hb c hc
      simpa using this
inductive Ed where
  | add (v : D) | drop (v : D) | change (v c : D) | lift (v : D) | allow (v m : D)
noncomputable def Ed.d : Ed → D
  | .add v => .tup [.str "add", v]
  | .drop v => .tup [.str "drop", v]
  | .change v c => .tup [.str "change", v, c]
  | .lift v => .tup [.str "lift", v]
  | .allow v m => .tup [.str "allow", v, m]
noncomputable def Ed.ql : Ed → Prop
  | .add v => v.ql = true
  | .drop v => v.ql = true
  | .change v c => v.ql = true ∧ c.ql = true
  | .lift v => v.ql = true
  | .allow v m => v.ql = true ∧ m.ql = true
noncomputable def whole (v : D) (n : Nat) : Option Nat := match v with
  | .int i => if 0 ≤ i ∧ i < (n : Int) then some i.toNat else none
  | _ => none
inductive Af where
  | no (v : D) | to (cs : List D)
noncomputable def lifted (cs : List D) (i : Nat) : List D := if i = 0 then cs else cs.take (i - 1) ++ [cs.getD i .non, cs.getD (i - 1) .non] ++ cs.drop (i + 1)
noncomputable def allowed (m : D) : D → D
  | .tup [a, _, c] => .tup [a, m, c]
  | d => d
noncomputable def put (cs : List D) (i : Nat) (x : D) : List D := cs.take i ++ [x] ++ cs.drop (i + 1)
noncomputable def at' (cs : List D) (v : D) (f : Nat → List D) : Af := match whole v cs.length with
  | none => .no v
  | some i => .to (f i)
noncomputable def after (cs : List D) : Ed → Af
  | .add v => .to (cs ++ [v])
  | .drop v => at' cs v fun i => cs.take i ++ cs.drop (i + 1)
  | .change v c => at' cs v fun i => put cs i c
  | .lift v => at' cs v fun i => lifted cs i
  | .allow v m => at' cs v fun i => put cs i (allowed m (cs.getD i .non))
inductive Rs where
  | ok (cs : List D) | no (v : D) | bad (e : D)
noncomputable def due (k U : Nat) (cs : List D) (e : Ed) : Rs := match after cs e with
  | .no v => .no v
  | .to ds => if nonD (cerr k U (.tup ds)) = true then .ok ds else .bad (cerr k U (.tup ds))
theorem whole_lt {v : D} {n i : Nat} (h : whole v n = some i) : i < n ∧ v = nD i := by
  unfold whole at h
  split at h
  · rename_i j
    split at h
    · rename_i hj
      cases h
      refine ⟨by omega, ?_⟩
      show D.int j = D.int _
      rw [Int.toNat_of_nonneg hj.1]
    · cases h
  · cases h
theorem whole_in (v : D) (n : Nat) : (whole v n).isSome = isIn v 0 ((n : Int) - 1) := by
  unfold whole isIn
  cases v with
  | int i =>
    by_cases h : 0 ≤ i ∧ i < (n : Int)
    · have h2 : 0 ≤ i ∧ i ≤ (n : Int) - 1 := ⟨h.1, by omega⟩
      simp only [if_pos h, decide_eq_true h2, Option.isSome_some]
    · have h2 : ¬ (0 ≤ i ∧ i ≤ (n : Int) - 1) := fun z => h ⟨z.1, by omega⟩
      simp only [if_neg h, decide_eq_false h2, Option.isSome_none]
  | _ => rfl
theorem due_cz {k U : Nat} {cs ds : List D} {e : Ed} (h : due k U cs e = .ok ds) : Cz k U ds := by
  unfold due at h
  split at h
  · cases h
  · split at h
    · rename_i hh
      cases h
      exact cerr_iff.mp hh
    · cases h
section
variable {k U : Nat} {cs : List D} (h : Cz k U cs)
include h
theorem cz_drop (i : Nat) (hi : i < cs.length) : Cz k U (cs.take i ++ cs.drop (i + 1)) := by
  have h3 := h.n3
  refine ⟨by rw [List.length_append, List.length_take, List.length_drop]; omega, fun c hc => ?_⟩
  rcases List.mem_append.mp hc with z | z
  · exact h.ok c (List.mem_of_mem_take z)
  · exact h.ok c (List.mem_of_mem_drop z)
theorem cz_lift (i : Nat) (hi : i < cs.length) : Cz k U (lifted cs i) := by
  unfold lifted
  split
  · exact h
  · rename_i h0
    have h3 := h.n3
    refine ⟨by rw [List.length_append, List.length_append, List.length_take, List.length_drop]; simp; omega, fun c hc => ?_⟩
    rcases List.mem_append.mp hc with z | z
    · rcases List.mem_append.mp z with z | z
      · exact h.ok c (List.mem_of_mem_take z)
      · have e1 : cs.getD i .non = cs[i] := by rw [List.getD_eq_getElem?_getD, List.getElem?_eq_getElem hi]; rfl
        have e2 : cs.getD (i - 1) .non = cs[i - 1] := by rw [List.getD_eq_getElem?_getD, List.getElem?_eq_getElem (by omega)]; rfl
        rw [e1, e2] at z
        rcases List.mem_cons.mp z with z | z
        · rw [z]; exact h.ok _ (List.getElem_mem _)
        · rw [List.mem_singleton.mp z]; exact h.ok _ (List.getElem_mem _)
    · exact h.ok c (List.mem_of_mem_drop z)
theorem due_drop (v : D) : due k U cs (.drop v) = match whole v cs.length with | none => .no v | some i => .ok (cs.take i ++ cs.drop (i + 1)) := by
  unfold due after at'
  dsimp only
  cases hw : whole v cs.length with
  | none => rfl
  | some i =>
    dsimp only
    rw [if_pos (cerr_iff.mpr (cz_drop h i (whole_lt hw).1))]
theorem due_lift (v : D) : due k U cs (.lift v) = match whole v cs.length with | none => .no v | some i => .ok (lifted cs i) := by
  unfold due after at'
  dsimp only
  cases hw : whole v cs.length with
  | none => rfl
  | some i =>
    dsimp only
    rw [if_pos (cerr_iff.mpr (cz_lift h i (whole_lt hw).1))]
end
theorem cutD_toN {ds : List D} {n : Nat} : cutD ds none (some ((n : Nat) : Int)) = ds.take n := by
  unfold cutD
  rw [HT.sIx_none, HT.sIx_nat]
  show (ds.drop 0).take (min n ds.length - 0) = _
  rw [List.drop_zero, Nat.sub_zero]
  by_cases h : n ≤ ds.length
  · rw [Nat.min_eq_left h]
  · rw [Nat.min_eq_right (by omega), List.take_of_length_le (Nat.le_refl _), List.take_of_length_le (by omega)]
theorem cutD_fromN {ds : List D} {n : Nat} : cutD ds (some ((n : Nat) : Int)) none = ds.drop n := by
  unfold cutD
  rw [HT.sIx_none, HT.sIx_nat, List.take_of_length_le (by rw [List.length_drop]; exact Nat.le_refl _)]
  by_cases h : n ≤ ds.length
  · rw [Nat.min_eq_left h]
  · rw [Nat.min_eq_right (by omega), List.drop_length, List.drop_of_length_le (by omega)]
section
variable {ww : WW} {f h : ME} {env : Sg} {st s1 s2 : S} {ds : List D} {n : Nat}
theorem slT_to (h1 : f env st = some (.tup ds, s1)) (h2 : h env s1 = some (nD n, s2)) : slM slAny f noP (prt h) env st = some (.tup (ds.take n), s2) := by
  have e2 : prt h env s1 = some (some ((n : Nat) : Int), s2) := by
    unfold prt
    rw [h2]; rfl
  rw [v_slM, h1, Option.bind_some]
  show ((prt h env s1).bind _) = _
  rw [e2, Option.bind_some]
  show ((slAny (dr s2 (.tup ds)) none (some ((n : Nat) : Int))).map _) = _
  rw [dr_tup, v_slT, cutD_toN]; rfl
theorem slT_from (h1 : f env st = some (.tup ds, s1)) (h2 : h env s1 = some (nD n, s2)) : slM slAny f (prt h) noP env st = some (.tup (ds.drop n), s2) := by
  have e2 : prt h env s1 = some (some ((n : Nat) : Int), s2) := by
    unfold prt
    rw [h2]; rfl
  rw [v_slM, h1, Option.bind_some, e2, Option.bind_some]
  show ((noP env s2).bind fun u => (slAny (dr u.2 (.tup ds)) (some ((n : Nat) : Int)) u.1).map fun z => (z, u.2)) = _
  show ((slAny (dr s2 (.tup ds)) (some ((n : Nat) : Int)) none).map fun z => (z, s2)) = _
  rw [dr_tup, v_slT, cutD_fromN]; rfl
end
theorem kb_NoneType_int : kitB "NoneType" "int" = some false := by decide +kernel
theorem kb_bool_int : kitB "bool" "int" = some true := by decide +kernel
theorem kb_str_int : kitB "str" "int" = some false := by decide +kernel
theorem kb_list_int : kitB "list" "int" = some false := by decide +kernel
theorem kb_tuple_int : kitB "tuple" "int" = some false := by decide +kernel
theorem kb_dict_int : kitB "dict" "int" = some false := by decide +kernel
theorem kb_NoneType_tuple : kitB "NoneType" "tuple" = some false := by decide +kernel
theorem kb_bool_tuple : kitB "bool" "tuple" = some false := by decide +kernel
theorem kb_int_tuple : kitB "int" "tuple" = some false := by decide +kernel
theorem kb_str_tuple : kitB "str" "tuple" = some false := by decide +kernel
theorem kb_list_tuple : kitB "list" "tuple" = some false := by decide +kernel
theorem kb_tuple_tuple : kitB "tuple" "tuple" = some true := by decide +kernel
theorem kb_dict_tuple : kitB "dict" "tuple" = some false := by decide +kernel
theorem kb_NoneType_str : kitB "NoneType" "str" = some false := by decide +kernel
theorem kb_bool_str : kitB "bool" "str" = some false := by decide +kernel
theorem kb_int_str : kitB "int" "str" = some false := by decide +kernel
theorem kb_str_str : kitB "str" "str" = some true := by decide +kernel
theorem kb_list_str : kitB "list" "str" = some false := by decide +kernel
theorem kb_tuple_str : kitB "tuple" "str" = some false := by decide +kernel
theorem kb_dict_str : kitB "dict" "str" = some false := by decide +kernel
theorem kb_bool_bool : kitB "bool" "bool" = some true := by decide +kernel
theorem ist_ty {d : D} (hq : d.ql = true) : ((tyD d).bind fun t => kitB t "tuple") = some (isTup d) := by
  cases d with
  | deck => cases hq
  | ref _ => cases hq
  | non => exact kb_NoneType_tuple
  | bl b => exact kb_bool_tuple
  | int i => exact kb_int_tuple
  | str x => exact kb_str_tuple
  | lst x => exact kb_list_tuple
  | tup x => exact kb_tuple_tuple
  | dic x y => exact kb_dict_tuple
theorem iss_ty {d : D} (hq : d.ql = true) : ((tyD d).bind fun t => kitB t "str") = some (isStrB d) := by
  cases d with
  | deck => cases hq
  | ref _ => cases hq
  | non => exact kb_NoneType_str
  | bl b => exact kb_bool_str
  | int i => exact kb_int_str
  | str x => exact kb_str_str
  | lst x => exact kb_list_str
  | tup x => exact kb_tuple_str
  | dic x y => exact kb_dict_str
/-- an integer by its class: none, a bool, another -/
theorem isi_ty {d : D} (hq : d.ql = true) : (((tyD d).bind fun t => kitB t "int") = some false ∧ ∀ lo hi, isIn d lo hi = false) ∨ (((tyD d).bind fun t => kitB t "int") = some true ∧ ((tyD d).bind fun t => kitB t "bool") = some true ∧ ∀ lo hi, isIn d lo hi = false) ∨ ∃ i, d = .int i := by
  cases d with
  | deck => cases hq
  | ref _ => cases hq
  | non => exact .inl ⟨kb_NoneType_int, fun _ _ => rfl⟩
  | bl b => exact .inr (.inl ⟨kb_bool_int, kb_bool_bool, fun _ _ => rfl⟩)
  | int i => exact .inr (.inr ⟨i, rfl⟩)
  | str x => exact .inl ⟨kb_str_int, fun _ _ => rfl⟩
  | lst x => exact .inl ⟨kb_list_int, fun _ _ => rfl⟩
  | tup x => exact .inl ⟨kb_tuple_int, fun _ _ => rfl⟩
  | dic x y => exact .inl ⟨kb_dict_int, fun _ _ => rfl⟩
end Lw
set_option Elab.async false
set_option linter.all false
set_option maxRecDepth 100000
set_option maxHeartbeats 2000000
namespace Lw
open PySem MD L2 Lc
variable {ww : WW}
theorem isTq {f : ME} {env : Sg} {st s1 : S} {d : D} (hq : d.ql = true) (h : f env st = some (d, s1)) : isiM "tuple" f env st = some (.bl (isTup d), s1) := isi_of h (dr_ql hq s1) (ist_ty hq)
theorem isSq {f : ME} {env : Sg} {st s1 : S} {d : D} (hq : d.ql = true) (h : f env st = some (d, s1)) : isiM "str" f env st = some (.bl (isStrB d), s1) := isi_of h (dr_ql hq s1) (iss_ty hq)
theorem intq {d : D} (hq : d.ql = true) (lo hi : Int) (st : S) : m_is_integer_words [d, .int lo, .int hi] st = some (.bl (isIn d lo hi), st) := by
  have hb : b_is_integer_words = (retM (andV (isiM "int" (rd 0)) (andV (notV (isiM "bool" (rd 0))) (chM leM leM (rd 1) (rd 0) (rd 2))))) := rfl
  have h0 : rd 0 [.val d, .val (.int lo), .val (.int hi)] st = some (d, st) := rfl
  rcases isi_ty hq with ⟨h1, h2⟩ | ⟨h1, h2, h3⟩ | ⟨i, rfl⟩
  · have t := isi_of h0 (dr_ql hq st) h1
    refine Lm.run_of ?_
    show b_is_integer_words [.val d, .val (.int lo), .val (.int hi)] st = _
    rw [hb, h2]
    exact Lm.ret_of (andV_of (b := false) t (fun z => nomatch z))
  · have t1 := isi_of h0 (dr_ql hq st) h1
    have t2 := isi_of h0 (dr_ql hq st) h2
    refine Lm.run_of ?_
    show b_is_integer_words [.val d, .val (.int lo), .val (.int hi)] st = _
    rw [hb, h3]
    exact Lm.ret_of (andV_of t1 fun _ => andV_of (b := false) (notV_of t2) (fun z => nomatch z))
  · exact intw_ok i lo hi st
theorem intq_cuts {d : D} (hq : d.ql = true) (lo hi : Int) (st : S) : m_is_integer_cuts [d, .int lo, .int hi] st = some (.bl (isIn d lo hi), st) := intq hq lo hi st
theorem intq_whole {d : D} (hq : d.ql = true) (lo hi : Int) (st : S) : m_is_whole [d, .int lo, .int hi] st = some (.bl (isIn d lo hi), st) := intq hq lo hi st
theorem intq_law {d : D} (hq : d.ql = true) (lo hi : Int) (st : S) : m__law_is_number [d, .int lo, .int hi] st = some (.bl (isIn d lo hi), st) := intq hq lo hi st
theorem cl_eq {k : Nat} (hk4 : k ≤ 4) {f : ME} {i : Nat} {env env1 : Sg} {en : Nat → Sg} {st : S} {cl : List Nat} (hw : wipeE env [i] = env1) (hn : ∀ x, nameT i (D.str (W [x])) env1 = some (en x)) (hr : ∀ x, rd i (en x) st = some (.str (W [x]), st)) (hf1 : ∀ x, f (en x) st = some (.str (W cl), st)) (hf : f env st = some (.str (W cl), st)) (h0 : rd 0 env st = some (nD k, st)) :
    opM eqM f (m1M joinM (cst (.str "")) (frz (compM (seqI (slM slAny (cst (.str "abcd")) noP (prt (rd 0)))) (nameT i) (tstM (opM (cntD false) (rd i) f)) (rd i) [i]))) env st = some (.bl (clB k cl), st) := by
  have e1 := sl_to (f := cst (.str "abcd")) (h := rd 0) (env := env) (st := st) (s1 := st) (s2 := st) (w := ltr 4) (p := k) (by rw [s_abcd]; rfl) h0 (by simp)
  have e2 : (ltr 4).take k = ltr k := by
    have hk : k = 0 ∨ k = 1 ∨ k = 2 ∨ k = 3 ∨ k = 4 := by omega
    rcases hk with hk | hk | hk | hk | hk <;> rw [hk] <;> rfl
  rw [e2] at e1
  have c2 := comp_fil (F := fun x => D.str (W [x])) (G := fun x => D.str (W [x])) (t := nameT i) (c := tstM (opM (cntD false) (rd i) f)) (f := rd i) (q := fun x => decide (x ∈ cl)) (vs := [i]) (env1 := env1) (en := en) (l := ltr k) (signs_of e1) (by simp; omega) hw
    (fun x hx => ⟨hn x, Lm.tst_of (in_W (s1 := st) (hr x) (hf1 x)), hr x⟩)
  have hd : clB k cl = decide (cl = (ltr k).filter fun x => decide (x ∈ cl)) := rfl
  rw [hd]
  obtain ⟨v, hv⟩ : ∃ v, v = (ltr k).filter fun x => decide (x ∈ cl) := ⟨_, rfl⟩
  rw [← hv] at c2 ⊢
  have hvl : v.length ≤ 4 := by
    rw [hv]
    exact Nat.le_trans (List.length_filter_le _ _) (by simp; exact hk4)
  have e3 : (v.map fun x => D.str (W [x])) = (v.map fun x => [x]).map fun p => D.str (W p) := by rw [List.map_map]; rfl
  rw [e3] at c2
  have j1 := join_of (str_of empty_W) c2 (by
    have : ∀ l : List Nat, ((l.map fun x => [x]).map List.length).sum = l.length := fun l => by
      induction l with
      | nil => rfl
      | cons a l ih => rw [List.map_cons, List.map_cons, List.sum_cons, ih, List.length_cons]; simp; omega
    rw [this, List.length_map]
    simp; omega)
  rw [joinL_one] at j1
  exact eq_W hf j1
theorem clq {k : Nat} (hk4 : k ≤ 4) {d : D} (hq : d.ql = true) (st : S) : m_are_clinging [nD k, d] st = some (.bl (clD k d), st) := by
  have hb : b_are_clinging = (seqM (ifS (notM (truM (isiM "str" (rd 1))))
 (retM (cst (.bl false)))
 nxM)
 (retM (opM eqM (rd 1) (m1M joinM (cst (.str "")) (frz (compM (seqI (slM slAny (cst (.str "abcd")) noP (prt (rd 0)))) (nameT 2) (tstM (opM (cntD false) (rd 2) (rd 1))) (rd 2) [2])))))) := rfl
  refine Lm.run_of ?_
  show b_are_clinging [.val (nD k), .val d, .un] st = _
  rw [hb]
  have t1 := Lh.not_of (Lh.tru_of (isSq (f := rd 1) (env := [.val (nD k), .val d, .un]) (st := st) (s1 := st) hq rfl))
  cases hs : isStrB d with
  | false =>
    rw [hs] at t1
    have e : clD k d = false := by
      cases d <;> first | rfl | cases hs
    rw [e]
    exact Lm.seq_rt (Lm.ifs_t t1 rfl)
  | true =>
    rw [hs] at t1
    rw [Lm.seq_nx (Lm.ifs_f t1 v_nxM)]
    cases d with
    | str s =>
      have e := cl_eq hk4 (f := rd 1) (i := 2) (env := [.val (nD k), .val (.str s), .un]) (env1 := [.val (nD k), .val (.str s), .un]) (en := fun x => [.val (nD k), .val (.str s), .val (.str (W [x]))]) (st := st) (cl := s.cps.toList) rfl (fun x => rfl) (fun x => rfl) (fun x => by rw [W_of']; rfl) (by rw [W_of']; rfl) rfl
      exact Lm.ret_of e
    | _ => cases hs
theorem limq {a b : D} (ha : a.ql = true) (hb : b.ql = true) (us : List D) (st : S) : m_is_cut_limit [.tup us, .tup [a, b]] st = some (.bl (isIn a 0 ((us.length : Int) - 1) && isIn b 0 20), st) := by
  have hb2 : b_is_cut_limit = (seqM (ifS (orM (notM (truM (isiM "tuple" (rd 1)))) (tstM (opM neM (cbM lenA (aCons (rd 1) aNil)) (cst (.int 2)))))
 (retM (cst (.bl false)))
 nxM)
 (retM (andV (callM m_is_integer_cuts (aCons (opM subD (rd 1) (cst (.int 0))) (aCons (cst (.int 0)) (aCons (opM subM (cbM lenA (aCons (rd 0) aNil)) (cst (.int 1))) aNil)))) (callM m_is_integer_cuts (aCons (opM subD (rd 1) (cst (.int 1))) (aCons (cst (.int 0)) (aCons (cst (.int 20)) aNil))))))) := rfl
  refine Lm.run_of ?_
  show b_is_cut_limit [.val (.tup us), .val (.tup [a, b])] st = _
  rw [hb2]
  have t1 := Lh.not_of (Lh.tru_of (isiT (f := rd 1) (env := [.val (.tup us), .val (.tup [a, b])]) (st := st) (s1 := st) (ds := [a, b]) rfl))
  have t2 := Lh.ne_int (h := cst (.int 2)) (j := 2) (s2 := st) (lenT (f := rd 1) (env := [.val (.tup us), .val (.tup [a, b])]) (st := st) (s1 := st) (ds := [a, b]) rfl) rfl
  rw [decide_eq_false (by show ¬ ((2 : Int) ≠ 2); simp)] at t2
  rw [Lm.seq_nx (Lm.ifs_f (Lh.or_f t1 t2) v_nxM)]
  have u0 : opM subD (rd 1) (cst (.int 0)) [.val (.tup us), .val (.tup [a, b])] st = some (a, st) := Lh.at_tup (j := 0) (f := rd 1) (s1 := st) (ds := [a, b]) rfl rfl
  have u1 : opM subD (rd 1) (cst (.int 1)) [.val (.tup us), .val (.tup [a, b])] st = some (b, st) := Lh.at_tup (j := 1) (f := rd 1) (s1 := st) (ds := [a, b]) rfl rfl
  have hlen := lenT (f := rd 0) (env := [.val (.tup us), .val (.tup [a, b])]) (st := st) (s1 := st) (ds := us) rfl
  have a1 : opM subM (cbM lenA (aCons (rd 0) aNil)) (cst (.int 1)) [.val (.tup us), .val (.tup [a, b])] st = some (.int (((us.length : Nat) : Int) - 1), st) := by
    rw [v_opM, hlen]; rfl
  have c1 := Lm.call_of (Lm.cons_of u0 (Lm.cons_of (f := cst (.int 0)) (d := .int 0) (s1 := st) rfl (Lm.cons_of a1 v_aNil))) (intq_cuts ha 0 (((us.length : Nat) : Int) - 1) st)
  have c2 := Lm.call_of (Lm.cons_of u1 (Lm.cons_of (f := cst (.int 0)) (d := .int 0) (s1 := st) rfl (Lm.cons_of (f := cst (.int 20)) (d := .int 20) (s1 := st) rfl v_aNil))) (intq_cuts hb 0 20 st)
  exact Lm.ret_of (andV_of c1 fun _ => c2)
theorem cutq {k : Nat} (hk4 : k ≤ 4) {v : D} (hq : v.ql = true) (us : List D) (st : S) : m_is_cut [nD k, .tup us, v] st = some (.bl (isC k us.length v), st) := by
  have hb : b_is_cut = (seqM (ifS (orM (notM (truM (isiM "tuple" (rd 2)))) (tstM (opM neM (cbM lenA (aCons (rd 2) aNil)) (cst (.int 3)))))
 (retM (cst (.bl false)))
 nxM)
 (retM (andV (callM m_is_cut_limit (aCons (rd 1) (aCons (slM slAny (rd 2) noP (prt (cst (.int 2)))) aNil))) (callM m_are_clinging (aCons (rd 0) (aCons (opM subD (rd 2) (cst (.int 2))) aNil)))))) := rfl
  refine Lm.run_of ?_
  show b_is_cut [.val (nD k), .val (.tup us), .val v] st = _
  rw [hb]
  have t1 := Lh.not_of (Lh.tru_of (isTq (f := rd 2) (env := [.val (nD k), .val (.tup us), .val v]) (st := st) (s1 := st) hq rfl))
  cases hv : isTup v with
  | false =>
    rw [hv] at t1
    rw [isC_other (fun a b c e => by rw [e] at hv; cases hv)]
    exact Lm.seq_rt (Lm.ifs_t (Lh.or_t t1) rfl)
  | true =>
    rw [hv] at t1
    cases v with
    | tup ds =>
      have t2 := Lh.ne_int (h := cst (.int 3)) (j := 3) (s2 := st) (lenT (f := rd 2) (env := [.val (nD k), .val (.tup us), .val (.tup ds)]) (st := st) (s1 := st) (ds := ds) rfl) rfl
      by_cases h3 : ds.length = 3
      · rw [decide_eq_false (by rw [h3]; simp)] at t2
        obtain ⟨a, b, c, rfl⟩ := three_of h3
        rw [Lm.seq_nx (Lm.ifs_f (Lh.or_f t1 t2) v_nxM)]
        obtain ⟨_, _, k2⟩ := at3 (f := rd 2) (env := [.val (nD k), .val (.tup us), .val (.tup [a, b, c])]) (st := st) (d0 := a) (d1 := b) (d2 := c) rfl
        have e1 : slM slAny (rd 2) noP (prt (cst (.int 2))) [.val (nD k), .val (.tup us), .val (.tup [a, b, c])] st = some (.tup [a, b], st) := rfl
        exact Lm.ret_of (andV_of (Lm.call_of (Lm.cons_of (f := rd 1) (s1 := st) rfl (Lm.cons_of e1 v_aNil)) (limq (ql_mem hq (by simp)) (ql_mem hq (by simp)) us st)) fun _ => Lm.call_of (Lm.cons_of (f := rd 0) (s1 := st) rfl (Lm.cons_of k2 v_aNil)) (clq hk4 (ql_mem hq (by simp)) st))
      · rw [decide_eq_true (by omega)] at t2
        rw [isC_other (fun a b c e => h3 (by cases e; rfl))]
        exact Lm.seq_rt (Lm.ifs_t (Lh.or_f t1 t2) rfl)
    | _ => cases hv
noncomputable def enF (j : Nat) : List D → List D
  | [] => []
  | d :: ds => .tup [nD j, d] :: enF (j + 1) ds
theorem enumD_F (ds : List D) : enumD ds = enF 0 ds := by
  unfold enumD
  have h : ∀ (ds : List D) (j : Nat), (ds.zipIdx j).map (fun p => D.tup [.int ((p.2 : Nat) : Int), p.1]) = enF j ds := fun ds => by
    induction ds with
    | nil => intro j; rfl
    | cons d r ih => intro j; rw [List.zipIdx_cons, List.map_cons, ih]; rfl
  exact h ds 0
noncomputable abbrev envC (k : Nat) (us ds : List D) (x3 x4 : Sl) : Sg := [.val (nD k), .val (.tup us), .val (.tup ds), x3, x4]
theorem cq_loop {k : Nat} (hk : k ≤ 4) (us all : List D) (st : S) : ∀ (ds : List D) (j : Nat) (x3 x4 : Sl), (∀ x ∈ ds, x.ql = true) →
    ∃ y3 y4, forL (tupT 2 (consT (nameT 3) (consT (nameT 4) nilT))) ceB (enF j ds) (envC k us all x3 x4) st =
      some (match badAt k us.length ds with | some i => .rt (.tup [nD (j + i), .str "cut"]) | none => .nx (envC k us all y3 y4), st)
  | [], j, x3, x4, _ => ⟨x3, x4, rfl⟩
  | d :: ds, j, x3, x4, h => by
    have et : tupT 2 (consT (nameT 3) (consT (nameT 4) nilT)) (.tup [nD j, d]) (envC k us all x3 x4) = some (envC k us all (.val (nD j)) (.val d)) := rfl
    have c1 := Lh.not_of (Lh.tru_of (Lm.call_of (Lm.cons_of (f := rd 0) (env := envC k us all (.val (nD j)) (.val d)) (st := st) (s1 := st) rfl (Lm.cons_of (f := rd 1) (s1 := st) rfl (Lm.cons_of (f := rd 4) (s1 := st) rfl v_aNil))) (cutq hk (h d List.mem_cons_self) us st)))
    rw [show enF j (d :: ds) = .tup [nD j, d] :: enF (j + 1) ds from rfl, v_forL, et, Option.bind_some]
    unfold badAt
    rw [List.findIdx?_cons]
    cases hc : isC k us.length d with
    | true =>
      rw [hc] at c1
      obtain ⟨y3, y4, ih⟩ := cq_loop hk us all st ds (j + 1) (.val (nD j)) (.val d) fun x hx => h x (List.mem_cons_of_mem _ hx)
      refine ⟨y3, y4, ?_⟩
      have hx : ceB (envC k us all (.val (nD j)) (.val d)) st = some (.nx (envC k us all (.val (nD j)) (.val d)), st) := Lm.ifs_f c1 v_nxM
      rw [hx, Option.bind_some]
      unfold badAt at ih
      dsimp only
      rw [ih]
      cases hb : ds.findIdx? fun x => !isC k us.length x with
      | none => rfl
      | some i =>
        show some (Fl.rt (.tup [nD (j + 1 + i), .str "cut"]), st) = some (Fl.rt (.tup [nD (j + (i + 1)), .str "cut"]), st)
        rw [show j + 1 + i = j + (i + 1) by omega]
    | false =>
      rw [hc] at c1
      refine ⟨x3, x4, ?_⟩
      have hx : ceB (envC k us all (.val (nD j)) (.val d)) st = some (.rt (.tup [nD j, .str "cut"]), st) := Lm.ifs_t c1 (Lm.ret_of (Lh.tup2 (f := rd 3) (s1 := st) rfl rfl))
      rw [hx, Option.bind_some]
      rfl
theorem cerq {k : Nat} (hk : k ≤ 4) (us : List D) {v : D} (hq : v.ql = true) (st : S) : m_cuts_error [nD k, .tup us, v] st = some (cerr k us.length v, st) := by
  have hb : b_cuts_error = (seqM (ifS (notM (truM (isiM "tuple" (rd 2))))
 (retM (tupM (aCons (cst .non) (aCons (cst (.str "cuts")) aNil))))
 nxM)
 (seqM (forM (enumI (rd 2)) (tupT 2 (consT (nameT 3) (consT (nameT 4) nilT))) ceB)
 (retM (ifM (tstM (opM gtM (cbM lenA (aCons (rd 2) aNil)) (cst (.int 3)))) (tupM (aCons (cst .non) (aCons (cst (.str "many")) aNil))) (cst .non))))) := rfl
  refine Lm.run_of ?_
  show b_cuts_error [.val (nD k), .val (.tup us), .val v, .un, .un] st = _
  rw [hb]
  have t1 := Lh.not_of (Lh.tru_of (isTq (f := rd 2) (env := [.val (nD k), .val (.tup us), .val v, .un, .un]) (st := st) (s1 := st) hq rfl))
  cases hv : isTup v with
  | false =>
    rw [hv] at t1
    have e : cerr k us.length v = .tup [.non, .str "cuts"] := by
      cases v <;> first | rfl | cases hv
    rw [e]
    exact Lm.seq_rt (Lm.ifs_t t1 (Lm.ret_of (Lh.tup2 (f := cst .non) (s1 := st) rfl rfl)))
  | true =>
    rw [hv] at t1
    cases v with
    | tup ds =>
      rw [Lm.seq_nx (Lm.ifs_f t1 v_nxM)]
      obtain ⟨y3, y4, h2⟩ := cq_loop hk us ds st ds 0 .un .un fun x hx => ql_mem hq hx
      have h2 := forM_of' (show enumI (rd 2) (envC k us ds .un .un) st = some (enF 0 ds, st) from by rw [← enumD_F]; rfl) h2
      have e : cerr k us.length (.tup ds) = match badAt k us.length ds with
        | some i => .tup [nD i, .str "cut"]
        | none => if 3 < ds.length then .tup [.non, .str "many"] else .non := rfl
      rw [e]
      cases hb2 : badAt k us.length ds with
      | some i =>
        rw [hb2] at h2
        simp only [Nat.zero_add] at h2
        exact Lm.seq_rt h2
      | none =>
        rw [hb2] at h2
        rw [Lm.seq_nx h2]
        have t3 := Lh.gt_of (h := cst (.int 3)) (j := 3) (s2 := st) (lenT (f := rd 2) (env := envC k us ds y3 y4) (st := st) (s1 := st) (ds := ds) rfl) rfl
        by_cases h3 : 3 < ds.length
        · rw [decide_eq_true (by omega)] at t3
          simp only [if_pos h3]
          exact Lm.ret_of (if_t t3 (Lh.tup2 (f := cst .non) (s1 := st) rfl rfl))
        · rw [decide_eq_false (by omega)] at t3
          simp only [if_neg h3]
          exact Lm.ret_of (if_f t3 rfl)
    | _ => cases hv
end Lw
set_option Elab.async false
set_option linter.all false
set_option maxRecDepth 100000
set_option maxHeartbeats 1000000
namespace Lx
open PySem MD L2 Lc Lw
variable {ww : WW}
section
variable {f h : MSX} {env e : Sg} {st s1 s2 : S} {d : D} {c g : Str} {r : Option (Fx × S)}
theorem seq_nx (hf : f env st = some (.fl (.nx e), s1)) : seqX f h env st = h e s1 := by unfold seqX; rw [hf]; rfl
theorem seq_rt (hf : f env st = some (.fl (.rt d), s1)) : seqX f h env st = some (.fl (.rt d), s1) := by unfold seqX; rw [hf]; rfl
theorem seq_xc (hf : f env st = some (.xc c g d, s1)) : seqX f h env st = some (.xc c g d, s1) := by unfold seqX; rw [hf]; rfl
theorem li_of {f : MS} {x : Fl} (hf : f env st = some (x, s1)) : liX f env st = some (.fl x, s1) := by unfold liX; rw [hf]; rfl
theorem if_t {t : MT} (hc : t env st = some (true, s1)) (hf : f env s1 = r) : ifX t f h env st = r := by unfold ifX; rw [hc]; exact hf
theorem if_f {t : MT} (hc : t env st = some (false, s1)) (hf : h env s1 = r) : ifX t f h env st = r := by unfold ifX; rw [hc]; exact hf
theorem rai_of {v : ME} (hv : v env st = some (d, s1)) : raiX c g v env st = some (.xc c g d, s1) := by unfold raiX; rw [hv]; rfl
noncomputable def fxR : Rx → Fx
  | .ok d => .fl (.rt d)
  | .xc c g d => .xc c g d
theorem ret_of {x : MEX} {y : Rx} (hx : x env st = some (y, s1)) : retX x env st = some (fxR y, s1) := by
  unfold retX
  rw [hx]
  cases y <;> rfl
theorem asg_of {x : MEX} {i : Nat} (hx : x env st = some (.ok d, s1)) : asgX (nameT i) x env st = some (.fl (.nx (env.set i (.val d))), s1) := by unfold asgX; rw [hx]; rfl
theorem asg_xc {x : MEX} {t : MG} (hx : x env st = some (.xc c g d, s1)) : asgX t x env st = some (.xc c g d, s1) := by unfold asgX; rw [hx]; rfl
theorem drp_of {x : MEX} (hx : x env st = some (.ok d, s1)) : drpX x env st = some (.fl (.nx env), s1) := by unfold drpX; rw [hx]; rfl
theorem drp_xc {x : MEX} (hx : x env st = some (.xc c g d, s1)) : drpX x env st = some (.xc c g d, s1) := by unfold drpX; rw [hx]; rfl
theorem run_of {n : Nat} {b : MSX} {ds : List D} {y : Rx} (hb : b (ds.map Sl.val ++ List.replicate (n - ds.length) Sl.un) st = some (fxR y, s1)) : runX n b ds st = some (y, s1) := by
  unfold runX
  rw [hb]
  cases y <;> rfl
theorem run_nx {n : Nat} {b : MSX} {ds : List D} (hb : b (ds.map Sl.val ++ List.replicate (n - ds.length) Sl.un) st = some (.fl (.nx e), s1)) : runX n b ds st = some (.ok .non, s1) := by
  unfold runX
  rw [hb]; rfl
end
section
variable {env : Sg} {st s1 s2 s3 : S} {d : D} {ds : List D} {c g m : Str} {r : Option (Rx × S)}
theorem pu_of {f : ME} (h : f env st = some (d, s1)) : puX f env st = some (.ok d, s1) := by unfold puX; rw [h]; rfl
theorem puA_of {a : MA} (h : a env st = some (ds, s1)) : puA a env st = some (.ok ds, s1) := by unfold puA; rw [h]; rfl
theorem cons_of {f : MEX} {a : MAX} (h : f env st = some (.ok d, s1)) (h2 : a env s1 = some (.ok ds, s2)) : consX f a env st = some (.ok (d :: ds), s2) := by unfold consX; rw [h, Option.bind_some]; dsimp only; rw [h2]; rfl
theorem cons_xc {f : MEX} {a : MAX} (h : f env st = some (.xc c g d, s1)) : consX f a env st = some (.xc c g d, s1) := by unfold consX; rw [h]; rfl
theorem cons_xc2 {f : MEX} {a : MAX} {e : D} (h : f env st = some (.ok e, s1)) (h2 : a env s1 = some (.xc c g d, s2)) : consX f a env st = some (.xc c g d, s2) := by unfold consX; rw [h, Option.bind_some]; dsimp only; rw [h2]; rfl
theorem call_of {mf : MFX} {a : MAX} (h : a env st = some (.ok ds, s1)) (h2 : mf ds s1 = r) : callX mf a env st = r := by unfold callX; rw [h]; exact h2
theorem met_of {mf : MFX} {fo : ME} {a : MAX} {n : Nat} {fs : List Str} {xs : List D} (h : fo env st = some (.ref n, s1)) (hn : s1.ob[n]? = some (.ins c fs xs)) (hm : m ∉ fs) (ha : a env s1 = some (.ok ds, s2)) (hf : mf (.ref n :: ds) s2 = r) : metX c m mf fo a env st = r := by
  unfold metX
  rw [h]
  show (insAt [c] s1 n).bind _ = _
  unfold insAt
  rw [hn]
  simp [hm, ha, hf]
theorem metD_of {mf : MF} {fo : ME} {a : MAX} {n : Nat} {fs : List Str} {xs : List D} (h : fo env st = some (.ref n, s1)) (hn : s1.ob[n]? = some (.ins c fs xs)) (hm : m ∉ fs) (ha : a env s1 = some (.ok ds, s2)) (hf : mf (.ref n :: ds) s2 = some (d, s3)) : metDX c m mf fo a env st = some (.ok d, s3) := by
  unfold metDX
  rw [h]
  show (insAt [c] s1 n).bind _ = _
  unfold insAt
  rw [hn]
  simp [hm, ha, hf]
theorem metD_xc {mf : MF} {fo : ME} {a : MAX} {n : Nat} {fs : List Str} {xs : List D} {c2 : Str} (h : fo env st = some (.ref n, s1)) (hn : s1.ob[n]? = some (.ins c fs xs)) (hm : m ∉ fs) (ha : a env s1 = some (.xc c2 g d, s2)) : metDX c m mf fo a env st = some (.xc c2 g d, s2) := by
  unfold metDX
  rw [h]
  show (insAt [c] s1 n).bind _ = _
  unfold insAt
  rw [hn]
  simp [hm, ha]
theorem ife_t {t : MT} {f h : MEX} (hc : t env st = some (true, s1)) (hf : f env s1 = r) : ifEX t f h env st = r := by unfold ifEX; rw [hc]; exact hf
theorem ife_f {t : MT} {f h : MEX} (hc : t env st = some (false, s1)) (hf : h env s1 = r) : ifEX t f h env st = r := by unfold ifEX; rw [hc]; exact hf
end
section
variable {f h : ME} {env : Sg} {st s1 s2 : S} {a b : Str} {c : Bool}
theorem eqS (h1 : f env st = some (.str a, s1)) (h2 : h env s1 = some (.str b, s2)) (hc : decide (a.cps.toList = b.cps.toList) = c) : tstM (opM eqM f h) env st = some (c, s2) := by
  rw [← W_of' a] at h1
  rw [← W_of' b] at h2
  rw [← hc]
  exact Lm.tst_of (eq_W h1 h2)
theorem neS (h1 : f env st = some (.str a, s1)) (h2 : h env s1 = some (.str b, s2)) (hc : decide (a.cps.toList = b.cps.toList) = c) : tstM (opM neM f h) env st = some (!c, s2) := by
  rw [← W_of' a] at h1
  rw [← W_of' b] at h2
  rw [← hc]
  exact Lm.tst_of (ne_W h1 h2)
theorem tup3 {x y z : ME} {d0 d1 d2 : D} (h0 : x env st = some (d0, st)) (h1 : y env st = some (d1, st)) (h2 : z env st = some (d2, st)) : tupM (aCons x (aCons y (aCons z aNil))) env st = some (.tup [d0, d1, d2], st) := by
  rw [v_tupM, Lm.cons_of h0 (Lm.cons_of h1 (Lm.cons_of h2 v_aNil)), Option.bind_some]
  exact grd_of (show 3 ≤ 1000000 by decide)
end
end Lx
set_option Elab.async false
set_option linter.all false
set_option maxRecDepth 100000
set_option maxHeartbeats 2000000
namespace Lw
open PySem MD L2 Lc
variable {ww : WW}
theorem cerr_ql (k U : Nat) (v : D) : (cerr k U v).ql = true := by
  unfold cerr
  split
  · split
    · rfl
    · split <;> rfl
  · rfl
theorem cz_at {k U : Nat} {cs : List D} (h : Cz k U cs) {i : Nat} (hi : i < cs.length) : ∃ a b c, cs[i]? = some (.tup [a, b, c]) ∧ cs.getD i .non = .tup [a, b, c] ∧ a.ql = true ∧ c.ql = true := by
  obtain ⟨u, m, ws, e, _⟩ := isC_form (h.ok _ (List.getElem_mem hi))
  exact ⟨nD u, nD m, .str (W ws), by rw [List.getElem?_eq_getElem hi, e], by rw [List.getD_eq_getElem?_getD, List.getElem?_eq_getElem hi, e]; rfl, rfl, rfl⟩
noncomputable def rxD : Rs → Rx
  | .ok ds => .ok (.tup ds)
  | .no v => .xc "NoCut" "index" v
  | .bad e => .xc "BadCuts" "error" e
theorem needq {k : Nat} (hk : k ≤ 4) (us : List D) {ds : List D} (hq : (D.tup ds).ql = true) (st : S) : m_need_cuts [nD k, .tup us, .tup ds] st = some (rxD (if nonD (cerr k us.length (.tup ds)) = true then .ok ds else .bad (cerr k us.length (.tup ds))), st) := by
  have hb : b_need_cuts = (seqX (liX (asgM (nameT 3) (callM m_cuts_error (aCons (rd 0) (aCons (rd 1) (aCons (rd 2) aNil))))))
 (seqX (ifX (tstM (opM isNotM (rd 3) (cst .non)))
 (raiX "BadCuts" "error" (rd 3))
 (liX nxM))
 (liX (retM (rd 2))))) := rfl
  have c1 := Lm.call_of (Lm.cons_of (f := rd 0) (env := [.val (nD k), .val (.tup us), .val (.tup ds), .un]) (st := st) (s1 := st) rfl (Lm.cons_of (f := rd 1) (s1 := st) rfl (Lm.cons_of (f := rd 2) (s1 := st) rfl v_aNil))) (cerq hk us hq st)
  refine Lx.run_of ?_
  show b_need_cuts [.val (nD k), .val (.tup us), .val (.tup ds), .un] st = _
  rw [hb, Lx.seq_nx (e := [.val (nD k), .val (.tup us), .val (.tup ds), .val (cerr k us.length (.tup ds))]) (Lx.li_of (Lm.asg_nx c1))]
  have t3 := Lc.isnot_of (f := rd 3) (env := [.val (nD k), .val (.tup us), .val (.tup ds), .val (cerr k us.length (.tup ds))]) (st := st) (s1 := st) (d := cerr k us.length (.tup ds)) rfl (dr_ql (cerr_ql _ _ _) _)
  cases hn : nonD (cerr k us.length (.tup ds)) with
  | true =>
    rw [hn] at t3
    rw [Lx.seq_nx (Lx.if_f t3 (Lx.li_of v_nxM)), if_pos rfl]
    exact Lx.li_of (Lm.ret_of rfl)
  | false =>
    rw [hn] at t3
    rw [if_neg (by simp)]
    exact Lx.seq_xc (Lx.if_t t3 (Lx.rai_of rfl))
theorem lenq {f : ME} {env : Sg} {st s1 : S} {ds : List D} (h : f env st = some (.tup ds, s1)) : opM subM (cbM lenA (aCons f aNil)) (cst (.int 1)) env st = some (.int (((ds.length : Nat) : Int) - 1), s1) := by
  rw [v_opM, lenT h]; rfl
theorem atq (cs : List D) {v : D} (hq : v.ql = true) (st : S) : m_cut_at [.tup cs, v] st = some (match whole v cs.length with | none => .xc "NoCut" "index" v | some i => .ok (cs.getD i .non), st) := by
  have hb : b_cut_at = (seqX (ifX (notM (truM (callM m_is_whole (aCons (rd 1) (aCons (cst (.int 0)) (aCons (opM subM (cbM lenA (aCons (rd 0) aNil)) (cst (.int 1))) aNil))))))
 (raiX "NoCut" "index" (rd 1))
 (liX nxM))
 (liX (retM (opM subD (rd 0) (rd 1))))) := rfl
  have c1 := Lh.not_of (Lh.tru_of (Lm.call_of (Lm.cons_of (f := rd 1) (env := [.val (.tup cs), .val v]) (st := st) (s1 := st) rfl (Lm.cons_of (f := cst (.int 0)) (d := .int 0) (s1 := st) rfl (Lm.cons_of (lenq (f := rd 0) (s1 := st) (ds := cs) rfl) v_aNil))) (intq_whole hq 0 (((cs.length : Nat) : Int) - 1) st)))
  rw [← whole_in] at c1
  refine Lx.run_of ?_
  show b_cut_at [.val (.tup cs), .val v] st = _
  rw [hb]
  cases hw : whole v cs.length with
  | none =>
    rw [hw] at c1
    exact Lx.seq_xc (Lx.if_t c1 (Lx.rai_of rfl))
  | some i =>
    rw [hw] at c1
    obtain ⟨hi, rfl⟩ := whole_lt hw
    rw [Lx.seq_nx (Lx.if_f c1 (Lx.li_of v_nxM))]
    refine Lx.li_of (Lm.ret_of (Lh.sub_tup (f := rd 0) (h := rd 1) (s1 := st) (s2 := st) (ds := cs) (j := ((i : Nat) : Int)) rfl rfl (atI_of (j := i) ?_)))
    rw [List.getD_eq_getElem?_getD, List.getElem?_eq_getElem hi]; rfl
/-- cuts[:i] + m + cuts[i + 1:] -/
theorem around {f fi g : ME} {env : Sg} {st : S} {cs xs : List D} {i : Nat} (h3 : cs.length ≤ 3) (hx : xs.length ≤ 10) (hf : f env st = some (.tup cs, st)) (hi : fi env st = some (nD i, st)) (hg : g env st = some (.tup xs, st)) :
    opM addM (opM addM (slM slAny f noP (prt fi)) g) (slM slAny f (prt (opM addM fi (cst (.int 1)))) noP) env st = some (.tup (cs.take i ++ xs ++ cs.drop (i + 1)), st) := by
  have a1 : opM addM fi (cst (.int 1)) env st = some (nD (i + 1), st) := Lh.int_add (h := cst (.int 1)) (j := 1) (s2 := st) hi rfl
  have l1 : (cs.take i).length ≤ 3 := by rw [List.length_take]; omega
  have l2 : (cs.drop (i + 1)).length ≤ 3 := by rw [List.length_drop]; omega
  exact Lm.add_tup (Lm.add_tup (slT_to hf hi) hg (by omega)) (slT_from hf a1) (by rw [List.length_append]; omega)
theorem around0 {f fi : ME} {env : Sg} {st : S} {cs : List D} {i : Nat} (h3 : cs.length ≤ 3) (hf : f env st = some (.tup cs, st)) (hi : fi env st = some (nD i, st)) :
    opM addM (slM slAny f noP (prt fi)) (slM slAny f (prt (opM addM fi (cst (.int 1)))) noP) env st = some (.tup (cs.take i ++ cs.drop (i + 1)), st) := by
  have a1 : opM addM fi (cst (.int 1)) env st = some (nD (i + 1), st) := Lh.int_add (h := cst (.int 1)) (j := 1) (s2 := st) hi rfl
  have l1 : (cs.take i).length ≤ 3 := by rw [List.length_take]; omega
  have l2 : (cs.drop (i + 1)).length ≤ 3 := by rw [List.length_drop]; omega
  exact Lm.add_tup (slT_to hf hi) (slT_from hf a1) (by omega)
/-- cuts[:i - 1] + (cuts[i], cuts[i - 1]) + cuts[i + 1:] -/
theorem swap {f fi : ME} {env : Sg} {st : S} {cs : List D} {i : Nat} (h3 : cs.length ≤ 3) (h0 : i ≠ 0) (hl : i < cs.length) (hf : f env st = some (.tup cs, st)) (hi : fi env st = some (nD i, st)) :
    opM addM (opM addM (slM slAny f noP (prt (opM subM fi (cst (.int 1))))) (tupM (aCons (opM subD f fi) (aCons (opM subD f (opM subM fi (cst (.int 1)))) aNil)))) (slM slAny f (prt (opM addM fi (cst (.int 1)))) noP) env st = some (.tup (lifted cs i), st) := by
  have a0 : opM subM fi (cst (.int 1)) env st = some (nD (i - 1), st) := by
    have : opM subM fi (cst (.int 1)) env st = some (.int (((i : Nat) : Int) - 1), st) := by rw [v_opM, hi]; rfl
    rw [this, show ((i : Nat) : Int) - 1 = ((i - 1 : Nat) : Int) by omega]
  have a1 : opM addM fi (cst (.int 1)) env st = some (nD (i + 1), st) := Lh.int_add (h := cst (.int 1)) (j := 1) (s2 := st) hi rfl
  have e1 : opM subD f fi env st = some (cs.getD i .non, st) := Lh.sub_tup hf hi (atI_of (j := i) (by rw [List.getD_eq_getElem?_getD, List.getElem?_eq_getElem hl]; rfl))
  have e2 : opM subD f (opM subM fi (cst (.int 1))) env st = some (cs.getD (i - 1) .non, st) := Lh.sub_tup hf a0 (atI_of (j := i - 1) (by rw [List.getD_eq_getElem?_getD, List.getElem?_eq_getElem (by omega)]; rfl))
  have l1 : (cs.take (i - 1)).length ≤ 3 := by rw [List.length_take]; omega
  have l2 : (cs.drop (i + 1)).length ≤ 3 := by rw [List.length_drop]; omega
  unfold lifted
  rw [if_neg h0]
  exact Lm.add_tup (Lm.add_tup (slT_to hf a0) (Lh.tup2 e1 e2) (by simp; omega)) (slT_from hf a1) (by rw [List.length_append]; simp; omega)
theorem liftq {cs : List D} {i : Nat} (h3 : cs.length ≤ 3) (hl : i < cs.length) (st : S) : m_lifted [.tup cs, nD i] st = some (.tup (lifted cs i), st) := by
  have hb : b_lifted = (seqM (ifS (tstM (opM eqM (rd 1) (cst (.int 0))))
 (retM (rd 0))
 nxM)
 (retM (opM addM (opM addM (slM slAny (rd 0) noP (prt (opM subM (rd 1) (cst (.int 1))))) (tupM (aCons (opM subD (rd 0) (rd 1)) (aCons (opM subD (rd 0) (opM subM (rd 1) (cst (.int 1)))) aNil)))) (slM slAny (rd 0) (prt (opM addM (rd 1) (cst (.int 1)))) noP)))) := rfl
  refine Lm.run_of ?_
  show b_lifted [.val (.tup cs), .val (nD i)] st = _
  rw [hb]
  have t1 := Lh.eq_int (f := rd 1) (h := cst (.int 0)) (env := [.val (.tup cs), .val (nD i)]) (st := st) (s1 := st) (s2 := st) (i := ((i : Nat) : Int)) (j := 0) rfl rfl
  by_cases h0 : i = 0
  · rw [decide_eq_true (by omega)] at t1
    have e : lifted cs i = cs := by unfold lifted; rw [if_pos h0]
    rw [e]
    exact Lm.seq_rt (Lm.ifs_t t1 rfl)
  · rw [decide_eq_false (by omega)] at t1
    rw [Lm.seq_nx (Lm.ifs_f t1 v_nxM)]
    exact Lm.ret_of (swap h3 h0 hl rfl rfl)
theorem b_ed : b_edited = (seqX (liX (asgM (tupT 2 (consT (nameT 4) (consT (nameT 5) nilT))) (slM slAny (rd 3) noP (prt (cst (.int 2))))))
 (seqX (ifX (tstM (opM eqM (rd 4) (cst (.str "add"))))
 (retX (callX m_need_cuts (puA (aCons (rd 0) (aCons (rd 1) (aCons (opM addM (rd 2) (tupM (aCons (rd 5) aNil))) aNil))))))
 (liX nxM))
 (seqX (asgX (nameT 6) (callX m_cut_at (puA (aCons (rd 2) (aCons (rd 5) aNil)))))
 (seqX (ifX (tstM (opM eqM (rd 4) (cst (.str "drop"))))
 (liX (retM (opM addM (slM slAny (rd 2) noP (prt (rd 5))) (slM slAny (rd 2) (prt (opM addM (rd 5) (cst (.int 1)))) noP))))
 (liX nxM))
 (seqX (ifX (tstM (opM eqM (rd 4) (cst (.str "lift"))))
 (liX (retM (callM m_lifted (aCons (rd 2) (aCons (rd 5) aNil)))))
 (liX nxM))
 (seqX (liX (asgM (nameT 7) (ifM (tstM (opM eqM (rd 4) (cst (.str "change")))) (opM subD (rd 3) (cst (.int 2))) (tupM (aCons (opM subD (rd 6) (cst (.int 0))) (aCons (opM subD (rd 3) (cst (.int 2))) (aCons (opM subD (rd 6) (cst (.int 2))) aNil)))))))
 (retX (callX m_need_cuts (puA (aCons (rd 0) (aCons (rd 1) (aCons (opM addM (opM addM (slM slAny (rd 2) noP (prt (rd 5))) (tupM (aCons (rd 7) aNil))) (slM slAny (rd 2) (prt (opM addM (rd 5) (cst (.int 1)))) noP)) aNil)))))))))))) := rfl
section
variable {k : Nat} (hk : k ≤ 4) (us : List D) {cs : List D} (hc : Cz k us.length cs) (st : S)
include hk hc
noncomputable abbrev envE (k : Nat) (us cs es : List D) (x4 x5 x6 x7 : Sl) : Sg := [.val (nD k), .val (.tup us), .val (.tup cs), .val (.tup es), x4, x5, x6, x7]
omit hk hc in
theorem ed_head (w : Str) (v : D) (more : List D) : liX (asgM (tupT 2 (consT (nameT 4) (consT (nameT 5) nilT))) (slM slAny (rd 3) noP (prt (cst (.int 2))))) (envE k us cs (.str w :: v :: more) .un .un .un .un) st = some (.fl (.nx (envE k us cs (.str w :: v :: more) (.val (.str w)) (.val v) .un .un)), st) := by
  have e0 : slM slAny (rd 3) noP (prt (cst (.int 2))) (envE k us cs (.str w :: v :: more) .un .un .un .un) st = some (.tup [.str w, v], st) := slT_to (n := 2) (f := rd 3) (s1 := st) (s2 := st) (ds := .str w :: v :: more) rfl rfl
  exact Lx.li_of (Lh.asgT2 e0)
omit hk hc in
/-- no index: for all edits but add -/
theorem ed_at {w : Str} (v : D) (hq : v.ql = true) (more : List D) (hw : decide (w.cps.toList = ("add" : Str).cps.toList) = false) {r : Option (Fx × S)}
    (h0 : whole v cs.length = none → r = some (.xc "NoCut" "index" v, st))
    (h1 : ∀ i, whole v cs.length = some i → (seqX (ifX (tstM (opM eqM (rd 4) (cst (.str "drop"))))
 (liX (retM (opM addM (slM slAny (rd 2) noP (prt (rd 5))) (slM slAny (rd 2) (prt (opM addM (rd 5) (cst (.int 1)))) noP))))
 (liX nxM))
 (seqX (ifX (tstM (opM eqM (rd 4) (cst (.str "lift"))))
 (liX (retM (callM m_lifted (aCons (rd 2) (aCons (rd 5) aNil)))))
 (liX nxM))
 (seqX (liX (asgM (nameT 7) (ifM (tstM (opM eqM (rd 4) (cst (.str "change")))) (opM subD (rd 3) (cst (.int 2))) (tupM (aCons (opM subD (rd 6) (cst (.int 0))) (aCons (opM subD (rd 3) (cst (.int 2))) (aCons (opM subD (rd 6) (cst (.int 2))) aNil)))))))
 (retX (callX m_need_cuts (puA (aCons (rd 0) (aCons (rd 1) (aCons (opM addM (opM addM (slM slAny (rd 2) noP (prt (rd 5))) (tupM (aCons (rd 7) aNil))) (slM slAny (rd 2) (prt (opM addM (rd 5) (cst (.int 1)))) noP)) aNil)))))))))
 (envE k us cs (.str w :: v :: more) (.val (.str w)) (.val (nD i)) (.val (cs.getD i .non)) .un) st = r) : b_edited (envE k us cs (.str w :: v :: more) .un .un .un .un) st = r := by
  rw [b_ed, Lx.seq_nx (ed_head us st w v more)]
  have t1 := Lx.eqS (f := rd 4) (h := cst (.str "add")) (env := envE k us cs (.str w :: v :: more) (.val (.str w)) (.val v) .un .un) (st := st) (s1 := st) (s2 := st) rfl rfl hw
  rw [Lx.seq_nx (Lx.if_f t1 (Lx.li_of v_nxM))]
  have c1 := Lx.call_of (mf := m_cut_at) (Lx.puA_of (Lm.cons_of (f := rd 2) (env := envE k us cs (.str w :: v :: more) (.val (.str w)) (.val v) .un .un) (st := st) (s1 := st) rfl (Lm.cons_of (f := rd 5) (s1 := st) rfl v_aNil))) (atq cs hq st)
  cases hw2 : whole v cs.length with
  | none =>
    rw [hw2] at c1
    rw [h0 hw2]
    exact Lx.seq_xc (Lx.asg_xc c1)
  | some i =>
    rw [hw2] at c1
    obtain ⟨hi, rfl⟩ := whole_lt hw2
    rw [Lx.seq_nx (Lx.asg_of c1)]
    exact h1 i hw2
theorem edq {e : Ed} (he : e.ql) : m_edited [nD k, .tup us, .tup cs, e.d] st = some (rxD (due k us.length cs e), st) := by
  have h3 := hc.n3
  have hcq := hc.ql
  refine Lx.run_of ?_
  cases e with
  | add v =>
    show b_edited (envE k us cs [.str "add", v] .un .un .un .un) st = _
    rw [b_ed, Lx.seq_nx (ed_head us st "add" v [])]
    have t1 := Lx.eqS (f := rd 4) (h := cst (.str "add")) (env := envE k us cs [.str "add", v] (.val (.str "add")) (.val v) .un .un) (st := st) (s1 := st) (s2 := st) rfl rfl (c := true) (by decide +kernel)
    have hq : (D.tup (cs ++ [v])).ql = true := qlA fun d hd => by
      rcases List.mem_append.mp hd with z | z
      · exact hcq d z
      · rw [List.mem_singleton.mp z]; exact he
    have a1 : opM addM (rd 2) (tupM (aCons (rd 5) aNil)) (envE k us cs [.str "add", v] (.val (.str "add")) (.val v) .un .un) st = some (.tup (cs ++ [v]), st) := Lm.add_tup (f := rd 2) (s1 := st) (xs := cs) rfl (Lm.tup1 (f := rd 5) (s1 := st) rfl) (by simp; omega)
    have c1 := Lx.ret_of (Lx.call_of (mf := m_need_cuts) (Lx.puA_of (Lm.cons_of (f := rd 0) (env := envE k us cs [.str "add", v] (.val (.str "add")) (.val v) .un .un) (st := st) (s1 := st) rfl (Lm.cons_of (f := rd 1) (s1 := st) rfl (Lm.cons_of a1 v_aNil)))) (needq hk us hq st))
    have hd : due k us.length cs (.add v) = if nonD (cerr k us.length (.tup (cs ++ [v]))) = true then .ok (cs ++ [v]) else .bad (cerr k us.length (.tup (cs ++ [v]))) := rfl
    rw [hd]
    generalize (if nonD (cerr k us.length (.tup (cs ++ [v]))) = true then Rs.ok (cs ++ [v]) else .bad (cerr k us.length (.tup (cs ++ [v])))) = R at c1
    cases R with
    | ok ds => exact Lx.seq_rt (Lx.if_t t1 c1)
    | no v => exact Lx.seq_xc (Lx.if_t t1 c1)
    | bad e => exact Lx.seq_xc (Lx.if_t t1 c1)
  | drop v =>
    show b_edited (envE k us cs [.str "drop", v] .un .un .un .un) st = _
    refine ed_at us st v he [] (by decide +kernel) (fun hw => ?_) fun i hw => ?_
    · rw [due_drop hc, hw]; rfl
    · have t1 := Lx.eqS (f := rd 4) (h := cst (.str "drop")) (env := envE k us cs [.str "drop", v] (.val (.str "drop")) (.val (nD i)) (.val (cs.getD i .non)) .un) (st := st) (s1 := st) (s2 := st) rfl rfl (c := true) (by decide +kernel)
      rw [due_drop hc, hw]
      exact Lx.seq_rt (Lx.if_t t1 (Lx.li_of (Lm.ret_of (around0 h3 rfl rfl))))
  | lift v =>
    show b_edited (envE k us cs [.str "lift", v] .un .un .un .un) st = _
    refine ed_at us st v he [] (by decide +kernel) (fun hw => ?_) fun i hw => ?_
    · rw [due_lift hc, hw]; rfl
    · obtain ⟨hi, _⟩ := whole_lt hw
      have t1 := Lx.eqS (f := rd 4) (h := cst (.str "drop")) (env := envE k us cs [.str "lift", v] (.val (.str "lift")) (.val (nD i)) (.val (cs.getD i .non)) .un) (st := st) (s1 := st) (s2 := st) rfl rfl (c := false) (by decide +kernel)
      have t2 := Lx.eqS (f := rd 4) (h := cst (.str "lift")) (env := envE k us cs [.str "lift", v] (.val (.str "lift")) (.val (nD i)) (.val (cs.getD i .non)) .un) (st := st) (s1 := st) (s2 := st) rfl rfl (c := true) (by decide +kernel)
      rw [due_lift hc, hw, Lx.seq_nx (Lx.if_f t1 (Lx.li_of v_nxM))]
      exact Lx.seq_rt (Lx.if_t t2 (Lx.li_of (Lm.ret_of (Lm.call_of (Lm.cons_of (f := rd 2) (s1 := st) rfl (Lm.cons_of (f := rd 5) (s1 := st) rfl v_aNil)) (liftq h3 hi st)))))
  | change v c =>
    show b_edited (envE k us cs [.str "change", v, c] .un .un .un .un) st = _
    refine ed_at us st v he.1 [c] (by decide +kernel) (fun hw => ?_) fun i hw => ?_
    · unfold due after at'; dsimp only; rw [hw]; rfl
    · have t1 := Lx.eqS (f := rd 4) (h := cst (.str "drop")) (env := envE k us cs [.str "change", v, c] (.val (.str "change")) (.val (nD i)) (.val (cs.getD i .non)) .un) (st := st) (s1 := st) (s2 := st) rfl rfl (c := false) (by decide +kernel)
      have t2 := Lx.eqS (f := rd 4) (h := cst (.str "lift")) (env := envE k us cs [.str "change", v, c] (.val (.str "change")) (.val (nD i)) (.val (cs.getD i .non)) .un) (st := st) (s1 := st) (s2 := st) rfl rfl (c := false) (by decide +kernel)
      have t3 := Lx.eqS (f := rd 4) (h := cst (.str "change")) (env := envE k us cs [.str "change", v, c] (.val (.str "change")) (.val (nD i)) (.val (cs.getD i .non)) .un) (st := st) (s1 := st) (s2 := st) rfl rfl (c := true) (by decide +kernel)
      have e2 : opM subD (rd 3) (cst (.int 2)) (envE k us cs [.str "change", v, c] (.val (.str "change")) (.val (nD i)) (.val (cs.getD i .non)) .un) st = some (c, st) := Lh.at_tup (j := 2) (f := rd 3) (s1 := st) (ds := [.str "change", v, c]) rfl rfl
      rw [Lx.seq_nx (Lx.if_f t1 (Lx.li_of v_nxM)), Lx.seq_nx (Lx.if_f t2 (Lx.li_of v_nxM)), Lx.seq_nx (e := envE k us cs [.str "change", v, c] (.val (.str "change")) (.val (nD i)) (.val (cs.getD i .non)) (.val c)) (Lx.li_of (Lm.asg_nx (Lc.if_t t3 e2)))]
      have hq : (D.tup (put cs i c)).ql = true := qlA fun d hd => by
        unfold put at hd
        rcases List.mem_append.mp hd with z | z
        · rcases List.mem_append.mp z with z | z
          · exact hcq d (List.mem_of_mem_take z)
          · rw [List.mem_singleton.mp z]; exact he.2
        · exact hcq d (List.mem_of_mem_drop z)
      have a1 := around (f := rd 2) (fi := rd 5) (g := tupM (aCons (rd 7) aNil)) (env := envE k us cs [.str "change", v, c] (.val (.str "change")) (.val (nD i)) (.val (cs.getD i .non)) (.val c)) (st := st) (cs := cs) (xs := [c]) (i := i) h3 (by simp) rfl rfl (Lm.tup1 (f := rd 7) (s1 := st) rfl)
      have hd : due k us.length cs (.change v c) = if nonD (cerr k us.length (.tup (put cs i c))) = true then .ok (put cs i c) else .bad (cerr k us.length (.tup (put cs i c))) := by unfold due after at'; dsimp only; rw [hw]
      rw [hd]
      exact Lx.ret_of (Lx.call_of (mf := m_need_cuts) (Lx.puA_of (Lm.cons_of (f := rd 0) (s1 := st) rfl (Lm.cons_of (f := rd 1) (s1 := st) rfl (Lm.cons_of a1 v_aNil)))) (needq hk us hq st))
  | allow v m =>
    show b_edited (envE k us cs [.str "allow", v, m] .un .un .un .un) st = _
    refine ed_at us st v he.1 [m] (by decide +kernel) (fun hw => ?_) fun i hw => ?_
    · unfold due after at'; dsimp only; rw [hw]; rfl
    · obtain ⟨hi, _⟩ := whole_lt hw
      obtain ⟨a, b, c, _, hg, qa, qc⟩ := cz_at hc hi
      have t1 := Lx.eqS (f := rd 4) (h := cst (.str "drop")) (env := envE k us cs [.str "allow", v, m] (.val (.str "allow")) (.val (nD i)) (.val (cs.getD i .non)) .un) (st := st) (s1 := st) (s2 := st) rfl rfl (c := false) (by decide +kernel)
      have t2 := Lx.eqS (f := rd 4) (h := cst (.str "lift")) (env := envE k us cs [.str "allow", v, m] (.val (.str "allow")) (.val (nD i)) (.val (cs.getD i .non)) .un) (st := st) (s1 := st) (s2 := st) rfl rfl (c := false) (by decide +kernel)
      have t3 := Lx.eqS (f := rd 4) (h := cst (.str "change")) (env := envE k us cs [.str "allow", v, m] (.val (.str "allow")) (.val (nD i)) (.val (.tup [a, b, c])) .un) (st := st) (s1 := st) (s2 := st) rfl rfl (c := false) (by decide +kernel)
      have e2 : opM subD (rd 3) (cst (.int 2)) (envE k us cs [.str "allow", v, m] (.val (.str "allow")) (.val (nD i)) (.val (.tup [a, b, c])) .un) st = some (m, st) := Lh.at_tup (j := 2) (f := rd 3) (s1 := st) (ds := [.str "allow", v, m]) rfl rfl
      obtain ⟨k0, _, k2⟩ := at3 (f := rd 6) (env := envE k us cs [.str "allow", v, m] (.val (.str "allow")) (.val (nD i)) (.val (.tup [a, b, c])) .un) (st := st) (d0 := a) (d1 := b) (d2 := c) rfl
      rw [Lx.seq_nx (Lx.if_f t1 (Lx.li_of v_nxM)), Lx.seq_nx (Lx.if_f t2 (Lx.li_of v_nxM)), hg, Lx.seq_nx (e := envE k us cs [.str "allow", v, m] (.val (.str "allow")) (.val (nD i)) (.val (.tup [a, b, c])) (.val (.tup [a, m, c]))) (Lx.li_of (Lm.asg_nx (Lc.if_f t3 (Lx.tup3 k0 e2 k2))))]
      have hq : (D.tup (put cs i (.tup [a, m, c]))).ql = true := qlA fun d hd => by
        unfold put at hd
        rcases List.mem_append.mp hd with z | z
        · rcases List.mem_append.mp z with z | z
          · exact hcq d (List.mem_of_mem_take z)
          · rw [List.mem_singleton.mp z]
            exact qlA fun x hx => by
              simp only [List.mem_cons, List.not_mem_nil, or_false] at hx
              rcases hx with rfl | rfl | rfl
              · exact qa
              · exact he.2
              · exact qc
        · exact hcq d (List.mem_of_mem_drop z)
      have a1 := around (f := rd 2) (fi := rd 5) (g := tupM (aCons (rd 7) aNil)) (env := envE k us cs [.str "allow", v, m] (.val (.str "allow")) (.val (nD i)) (.val (.tup [a, b, c])) (.val (.tup [a, m, c]))) (st := st) (cs := cs) (xs := [.tup [a, m, c]]) (i := i) h3 (by simp) rfl rfl (Lm.tup1 (f := rd 7) (s1 := st) rfl)
      have hd : due k us.length cs (.allow v m) = if nonD (cerr k us.length (.tup (put cs i (.tup [a, m, c])))) = true then .ok (put cs i (.tup [a, m, c])) else .bad (cerr k us.length (.tup (put cs i (.tup [a, m, c])))) := by
        unfold due after at'
        dsimp only
        rw [hw]
        dsimp only
        rw [hg]; rfl
      rw [hd]
      exact Lx.ret_of (Lx.call_of (mf := m_need_cuts) (Lx.puA_of (Lm.cons_of (f := rd 0) (s1 := st) rfl (Lm.cons_of (f := rd 1) (s1 := st) rfl (Lm.cons_of a1 v_aNil)))) (needq hk us hq st))
end
end Lw
set_option Elab.async false
set_option linter.all false
set_option maxRecDepth 100000
set_option maxHeartbeats 2000000
namespace Lw
open PySem MD L2 Lc
variable {ww : WW}
theorem lcutq {k : Nat} (hk4 : k ≤ 4) {v : D} (hq : v.ql = true) (us : List D) (st : S) : m__law_is_cut [nD k, .tup us, v] st = some (.bl (isC k us.length v), st) := by
  have hb : b__law_is_cut = (seqM (ifS (orM (notM (truM (isiM "tuple" (rd 2)))) (orM (tstM (opM neM (cbM lenA (aCons (rd 2) aNil)) (cst (.int 3)))) (notM (truM (isiM "str" (opM subD (rd 2) (cst (.int 2))))))))
 (retM (cst (.bl false)))
 nxM)
 (seqM (ifS (orM (notM (truM (callM m__law_is_number (aCons (opM subD (rd 2) (cst (.int 0))) (aCons (cst (.int 0)) (aCons (opM subM (cbM lenA (aCons (rd 1) aNil)) (cst (.int 1))) aNil)))))) (notM (truM (callM m__law_is_number (aCons (opM subD (rd 2) (cst (.int 1))) (aCons (cst (.int 0)) (aCons (cst (.int 20)) aNil)))))))
 (retM (cst (.bl false)))
 nxM)
 (retM (opM eqM (opM subD (rd 2) (cst (.int 2))) (m1M joinM (cst (.str "")) (frz (compM (seqI (slM slAny (cst (.str "abcd")) noP (prt (rd 0)))) (nameT 3) (tstM (opM (cntD false) (rd 3) (opM subD (rd 2) (cst (.int 2))))) (rd 3) [3]))))))) := rfl
  refine Lm.run_of ?_
  show b__law_is_cut [.val (nD k), .val (.tup us), .val v, .un] st = _
  rw [hb]
  have t1 := Lh.not_of (Lh.tru_of (isTq (f := rd 2) (env := [.val (nD k), .val (.tup us), .val v, .un]) (st := st) (s1 := st) hq rfl))
  cases hv : isTup v with
  | false =>
    rw [hv] at t1
    rw [isC_other (fun a b c e => by rw [e] at hv; cases hv)]
    exact Lm.seq_rt (Lm.ifs_t (Lh.or_t t1) rfl)
  | true =>
    rw [hv] at t1
    cases v with
    | tup ds =>
      have t2 := Lh.ne_int (h := cst (.int 3)) (j := 3) (s2 := st) (lenT (f := rd 2) (env := [.val (nD k), .val (.tup us), .val (.tup ds), .un]) (st := st) (s1 := st) (ds := ds) rfl) rfl
      by_cases h3 : ds.length = 3
      · rw [decide_eq_false (by rw [h3]; simp)] at t2
        obtain ⟨a, b, c, rfl⟩ := three_of h3
        have qa := ql_mem hq (x := a) (by simp)
        have qb := ql_mem hq (x := b) (by simp)
        have qc := ql_mem hq (x := c) (by simp)
        obtain ⟨k0, k1, k2⟩ := at3 (f := rd 2) (env := [.val (nD k), .val (.tup us), .val (.tup [a, b, c]), .un]) (st := st) (d0 := a) (d1 := b) (d2 := c) rfl
        have t3 := Lh.not_of (Lh.tru_of (isSq qc k2))
        have e : isC k us.length (.tup [a, b, c]) = ((isIn a 0 ((us.length : Int) - 1) && isIn b 0 20) && clD k c) := rfl
        rw [e]
        cases hs : isStrB c with
        | false =>
          rw [hs] at t3
          have e2 : clD k c = false := by
            cases c <;> first | rfl | cases hs
          rw [e2, Bool.and_false]
          exact Lm.seq_rt (Lm.ifs_t (Lh.or_f t1 (Lh.or_f t2 t3)) rfl)
        | true =>
          rw [hs] at t3
          rw [Lm.seq_nx (Lm.ifs_f (Lh.or_f t1 (Lh.or_f t2 t3)) v_nxM)]
          have c1 := Lh.not_of (Lh.tru_of (Lm.call_of (Lm.cons_of k0 (Lm.cons_of (f := cst (.int 0)) (d := .int 0) (s1 := st) rfl (Lm.cons_of (lenq (f := rd 1) (s1 := st) (ds := us) rfl) v_aNil))) (intq_law qa 0 (((us.length : Nat) : Int) - 1) st)))
          have c2 := Lh.not_of (Lh.tru_of (Lm.call_of (Lm.cons_of k1 (Lm.cons_of (f := cst (.int 0)) (d := .int 0) (s1 := st) rfl (Lm.cons_of (f := cst (.int 20)) (d := .int 20) (s1 := st) rfl v_aNil))) (intq_law qb 0 20 st)))
          cases h1 : isIn a 0 ((us.length : Int) - 1) with
          | false =>
            rw [h1] at c1
            exact Lm.seq_rt (Lm.ifs_t (Lh.or_t c1) rfl)
          | true =>
            rw [h1] at c1
            cases h2 : isIn b 0 20 with
            | false =>
              rw [h2] at c2
              exact Lm.seq_rt (Lm.ifs_t (Lh.or_f c1 c2) rfl)
            | true =>
              rw [h2] at c2
              rw [Lm.seq_nx (Lm.ifs_f (Lh.or_f c1 c2) v_nxM)]
              cases c with
              | str s =>
                have k2' : ∀ y : Sl, opM subD (rd 2) (cst (.int 2)) [.val (nD k), .val (.tup us), .val (.tup [a, b, .str s]), y] st = some (.str (W s.cps.toList), st) := fun y => by
                  rw [W_of']
                  exact (at3 (f := rd 2) (env := [.val (nD k), .val (.tup us), .val (.tup [a, b, .str s]), y]) (st := st) rfl).2.2
                exact Lm.ret_of (cl_eq hk4 (f := opM subD (rd 2) (cst (.int 2))) (i := 3) (env := [.val (nD k), .val (.tup us), .val (.tup [a, b, .str s]), .un]) (env1 := [.val (nD k), .val (.tup us), .val (.tup [a, b, .str s]), .un]) (en := fun x => [.val (nD k), .val (.tup us), .val (.tup [a, b, .str s]), .val (.str (W [x]))]) (st := st) (cl := s.cps.toList) rfl (fun x => rfl) (fun x => rfl) (fun x => k2' _) (k2' _) rfl)
              | _ => cases hs
      · rw [decide_eq_true (by omega)] at t2
        rw [isC_other (fun a b c e => h3 (by cases e; rfl))]
        exact Lm.seq_rt (Lm.ifs_t (Lh.or_f t1 (Lh.or_t t2)) rfl)
    | _ => cases hv
noncomputable def lceB : MS := (ifS (notM (truM (callM m__law_is_cut (aCons (rd 0) (aCons (rd 1) (aCons (opM subD (rd 2) (rd 3)) aNil))))))
 (retM (tupM (aCons (rd 3) (aCons (cst (.str "cut")) aNil))))
 nxM)
noncomputable abbrev envL (k : Nat) (us ds : List D) (x3 : Sl) : Sg := [.val (nD k), .val (.tup us), .val (.tup ds), x3]
theorem lcq_loop {k : Nat} (hk : k ≤ 4) (us all : List D) (st : S) : ∀ (ds : List D) (j : Nat) (x3 : Sl), all.drop j = ds → (∀ x ∈ ds, x.ql = true) →
    ∃ y3, forL (nameT 3) lceB ((List.range' j ds.length).map nD) (envL k us all x3) st =
      some (match badAt k us.length ds with | some i => .rt (.tup [nD (j + i), .str "cut"]) | none => .nx (envL k us all y3), st)
  | [], j, x3, _, _ => ⟨x3, rfl⟩
  | d :: ds, j, x3, hd, h => by
    have hg : all[j]? = some d := by
      have : (all.drop j)[0]? = some d := by rw [hd]; rfl
      rw [List.getElem?_drop] at this
      simpa using this
    have hd2 : all.drop (j + 1) = ds := by
      have : (all.drop j).drop 1 = ds := by rw [hd]; rfl
      rw [List.drop_drop] at this
      exact this
    have et : nameT 3 (nD j) (envL k us all x3) = some (envL k us all (.val (nD j))) := rfl
    have e1 : opM subD (rd 2) (rd 3) (envL k us all (.val (nD j))) st = some (d, st) := Lh.sub_tup (f := rd 2) (h := rd 3) (s1 := st) (s2 := st) (ds := all) (j := ((j : Nat) : Int)) rfl rfl (atI_of hg)
    have c1 := Lh.not_of (Lh.tru_of (Lm.call_of (Lm.cons_of (f := rd 0) (env := envL k us all (.val (nD j))) (st := st) (s1 := st) rfl (Lm.cons_of (f := rd 1) (s1 := st) rfl (Lm.cons_of e1 v_aNil))) (lcutq hk (h d List.mem_cons_self) us st)))
    rw [List.length_cons, List.range'_succ, List.map_cons, v_forL, et, Option.bind_some]
    unfold badAt
    rw [List.findIdx?_cons]
    cases hc : isC k us.length d with
    | true =>
      rw [hc] at c1
      obtain ⟨y3, ih⟩ := lcq_loop hk us all st ds (j + 1) (.val (nD j)) hd2 fun x hx => h x (List.mem_cons_of_mem _ hx)
      refine ⟨y3, ?_⟩
      have hx : lceB (envL k us all (.val (nD j))) st = some (.nx (envL k us all (.val (nD j))), st) := Lm.ifs_f c1 v_nxM
      rw [hx, Option.bind_some]
      unfold badAt at ih
      dsimp only
      rw [ih]
      cases hb : ds.findIdx? fun x => !isC k us.length x with
      | none => rfl
      | some i =>
        show some (Fl.rt (.tup [nD (j + 1 + i), .str "cut"]), st) = some (Fl.rt (.tup [nD (j + (i + 1)), .str "cut"]), st)
        rw [show j + 1 + i = j + (i + 1) by omega]
    | false =>
      rw [hc] at c1
      refine ⟨x3, ?_⟩
      have hx : lceB (envL k us all (.val (nD j))) st = some (.rt (.tup [nD j, .str "cut"]), st) := Lm.ifs_t c1 (Lm.ret_of (Lh.tup2 (f := rd 3) (s1 := st) rfl rfl))
      rw [hx, Option.bind_some]
      rfl
theorem lcerq {k : Nat} (hk : k ≤ 4) (us : List D) {ds : List D} (hl : ds.length ≤ 1000) (hq : (D.tup ds).ql = true) (st : S) : m__law_cuts_error [nD k, .tup us, .tup ds] st = some (cerr k us.length (.tup ds), st) := by
  have hb : b__law_cuts_error = (seqM (ifS (notM (truM (isiM "tuple" (rd 2))))
 (retM (tupM (aCons (cst .non) (aCons (cst (.str "cuts")) aNil))))
 nxM)
 (seqM (forM (r1M (aCons (cbM lenA (aCons (rd 2) aNil)) aNil)) (nameT 3) lceB)
 (retM (ifM (tstM (opM gtM (cbM lenA (aCons (rd 2) aNil)) (cst (.int 3)))) (tupM (aCons (cst .non) (aCons (cst (.str "many")) aNil))) (cst .non))))) := rfl
  refine Lm.run_of ?_
  show b__law_cuts_error (envL k us ds .un) st = _
  rw [hb]
  have t1 := Lh.not_of (Lh.tru_of (isTq (f := rd 2) (env := envL k us ds .un) (st := st) (s1 := st) hq rfl))
  rw [Lm.seq_nx (Lm.ifs_f t1 v_nxM)]
  obtain ⟨y3, h2⟩ := lcq_loop hk us ds st ds 0 .un rfl fun x hx => ql_mem hq hx
  have er := Lh.r1_of (lenT (f := rd 2) (env := envL k us ds .un) (st := st) (s1 := st) (ds := ds) rfl) (by omega)
  rw [List.range_eq_range'] at er
  have h2 := forM_of' er h2
  have e : cerr k us.length (.tup ds) = match badAt k us.length ds with
    | some i => .tup [nD i, .str "cut"]
    | none => if 3 < ds.length then .tup [.non, .str "many"] else .non := rfl
  rw [e]
  cases hb2 : badAt k us.length ds with
  | some i =>
    rw [hb2] at h2
    simp only [Nat.zero_add] at h2
    exact Lm.seq_rt h2
  | none =>
    rw [hb2] at h2
    rw [Lm.seq_nx h2]
    have t3 := Lh.gt_of (h := cst (.int 3)) (j := 3) (s2 := st) (lenT (f := rd 2) (env := envL k us ds y3) (st := st) (s1 := st) (ds := ds) rfl) rfl
    by_cases h3 : 3 < ds.length
    · rw [decide_eq_true (by omega)] at t3
      simp only [if_pos h3]
      exact Lm.ret_of (if_t t3 (Lh.tup2 (f := cst .non) (s1 := st) rfl rfl))
    · rw [decide_eq_false (by omega)] at t3
      simp only [if_neg h3]
      exact Lm.ret_of (if_f t3 rfl)
noncomputable def rsD : Rs → D
  | .ok ds => .lst [.str "ok", .tup ds]
  | .no v => .lst [.str "NoCut", v]
  | .bad e => .lst [.str "BadCuts", e]
noncomputable def duF : MS := (seqM (asgM (nameT 6) (callM m__law_cuts_error (aCons (opM subD (rd 0) (cst (.int 0))) (aCons (opM subD (rd 0) (cst (.int 1))) (aCons (rd 5) aNil)))))
 (retM (ifM (tstM (opM isM (rd 6) (cst .non))) (frz (lstM (aCons (cst (.str "ok")) (aCons (rd 5) aNil)))) (frz (lstM (aCons (cst (.str "BadCuts")) (aCons (rd 6) aNil)))))))
noncomputable def duL : MS := (ifS (tstM (opM eqM (rd 3) (cst (.str "lift"))))
 (seqM (asgM (nameT 5) (rd 1))
 (ifS (tstM (opM gtM (rd 4) (cst (.int 0))))
 (asgM (nameT 5) (opM addM (opM addM (slM slAny (rd 1) noP (prt (opM subM (rd 4) (cst (.int 1))))) (tupM (aCons (opM subD (rd 1) (rd 4)) (aCons (opM subD (rd 1) (opM subM (rd 4) (cst (.int 1)))) aNil)))) (slM slAny (rd 1) (prt (opM addM (rd 4) (cst (.int 1)))) noP)))
 nxM))
 nxM)
noncomputable def duA : MS := (ifS (tstM (opM eqM (rd 3) (cst (.str "allow"))))
 (asgM (nameT 5) (opM addM (opM addM (slM slAny (rd 1) noP (prt (rd 4))) (tupM (aCons (tupM (aCons (opM subD (opM subD (rd 1) (rd 4)) (cst (.int 0))) (aCons (opM subD (rd 2) (cst (.int 2))) (aCons (opM subD (opM subD (rd 1) (rd 4)) (cst (.int 2))) aNil)))) aNil))) (slM slAny (rd 1) (prt (opM addM (rd 4) (cst (.int 1)))) noP)))
 nxM)
noncomputable def duN : MS := (seqM (ifS (notM (truM (callM m__law_is_number (aCons (rd 4) (aCons (cst (.int 0)) (aCons (opM subM (cbM lenA (aCons (rd 1) aNil)) (cst (.int 1))) aNil))))))
 (retM (frz (lstM (aCons (cst (.str "NoCut")) (aCons (rd 4) aNil)))))
 nxM)
 (asgM (nameT 5) (opM addM (opM addM (slM slAny (rd 1) noP (prt (rd 4))) (slM slAny (rd 2) (prt (cst (.int 2))) noP)) (slM slAny (rd 1) (prt (opM addM (rd 4) (cst (.int 1)))) noP))))
theorem b_du : b__law_due = (seqM (asgM (tupT 2 (consT (nameT 3) (consT (nameT 4) nilT))) (slM slAny (rd 2) noP (prt (cst (.int 2)))))
 (seqM (asgM (nameT 5) (opM addM (rd 1) (slM slAny (rd 2) (prt (cst (.int 1))) noP)))
 (seqM (ifS (tstM (opM neM (rd 3) (cst (.str "add")))) duN nxM)
 (seqM duL (seqM duA duF))))) := rfl
noncomputable abbrev envD (k : Nat) (us cs es : List D) (x3 x4 x5 x6 : Sl) : Sg := [.val (.tup [nD k, .tup us]), .val (.tup cs), .val (.tup es), x3, x4, x5, x6]
noncomputable def chk (k U : Nat) (ds : List D) : Rs := if nonD (cerr k U (.tup ds)) = true then .ok ds else .bad (cerr k U (.tup ds))
section
variable {k : Nat} (us cs : List D) (st : S)
theorem duF_ok (hk : k ≤ 4) (es : List D) (x3 x4 : Sl) {ds : List D} (hl : ds.length ≤ 1000) (hq : ∀ d ∈ ds, d.ql = true) : duF (envD k us cs es x3 x4 (.val (.tup ds)) .un) st = some (.rt (rsD (chk k us.length ds)), st) := by
  have k0 : opM subD (rd 0) (cst (.int 0)) (envD k us cs es x3 x4 (.val (.tup ds)) .un) st = some (nD k, st) := Lh.at_tup (j := 0) (f := rd 0) (s1 := st) (ds := [nD k, .tup us]) rfl rfl
  have k1 : opM subD (rd 0) (cst (.int 1)) (envD k us cs es x3 x4 (.val (.tup ds)) .un) st = some (.tup us, st) := Lh.at_tup (j := 1) (f := rd 0) (s1 := st) (ds := [nD k, .tup us]) rfl rfl
  have c1 := Lm.call_of (Lm.cons_of k0 (Lm.cons_of k1 (Lm.cons_of (f := rd 5) (s1 := st) rfl v_aNil))) (lcerq hk us hl (qlA hq) st)
  unfold duF
  rw [Lm.seq_nx (e := envD k us cs es x3 x4 (.val (.tup ds)) (.val (cerr k us.length (.tup ds)))) (Lm.asg_nx c1)]
  have t := Lc.is_of (f := rd 6) (env := envD k us cs es x3 x4 (.val (.tup ds)) (.val (cerr k us.length (.tup ds)))) (st := st) (s1 := st) rfl (dr_ql (cerr_ql _ _ _) _)
  unfold chk
  cases hn : nonD (cerr k us.length (.tup ds)) with
  | true =>
    rw [hn] at t
    rw [if_pos rfl]
    exact Lm.ret_of (Lc.if_t t (Lm.lst_of (Lm.cons_of (f := cst (.str "ok")) (s1 := st) rfl (Lm.cons_of (f := rd 5) (s1 := st) rfl v_aNil)) (show 2 ≤ 1000000 by decide)))
  | false =>
    rw [hn] at t
    rw [if_neg (by simp)]
    exact Lm.ret_of (Lc.if_f t (Lm.lst_of (Lm.cons_of (f := cst (.str "BadCuts")) (s1 := st) rfl (Lm.cons_of (f := rd 6) (s1 := st) rfl v_aNil)) (show 2 ≤ 1000000 by decide)))
theorem du_head (w : Str) (v : D) (more : List D) (h3 : cs.length ≤ 3) (hm : more.length ≤ 3) : b__law_due (envD k us cs (.str w :: v :: more) .un .un .un .un) st = (seqM (ifS (tstM (opM neM (rd 3) (cst (.str "add")))) duN nxM)
 (seqM duL (seqM duA duF))) (envD k us cs (.str w :: v :: more) (.val (.str w)) (.val v) (.val (.tup (cs ++ v :: more))) .un) st := by
  have e0 : slM slAny (rd 2) noP (prt (cst (.int 2))) (envD k us cs (.str w :: v :: more) .un .un .un .un) st = some (.tup [.str w, v], st) := slT_to (n := 2) (f := rd 2) (s1 := st) (s2 := st) (ds := .str w :: v :: more) rfl rfl
  have e1 : slM slAny (rd 2) (prt (cst (.int 1))) noP (envD k us cs (.str w :: v :: more) (.val (.str w)) (.val v) .un .un) st = some (.tup (v :: more), st) := slT_from (n := 1) (f := rd 2) (s1 := st) (s2 := st) (ds := .str w :: v :: more) rfl rfl
  have a1 := Lm.add_tup (f := rd 1) (env := envD k us cs (.str w :: v :: more) (.val (.str w)) (.val v) .un .un) (st := st) (s1 := st) (xs := cs) rfl e1 (by rw [List.length_cons]; omega)
  rw [b_du, Lm.seq_nx (e := envD k us cs (.str w :: v :: more) (.val (.str w)) (.val v) .un .un) (Lh.asgT2 e0), Lm.seq_nx (e := envD k us cs (.str w :: v :: more) (.val (.str w)) (.val v) (.val (.tup (cs ++ v :: more))) .un) (Lm.asg_nx a1)]
theorem du_at {w : Str} {v : D} (hv : v.ql = true) (more : List D) (h3 : cs.length ≤ 3) (hm : more.length ≤ 3) (hw : decide (w.cps.toList = ("add" : Str).cps.toList) = false) {r : Option (Fl × S)}
    (h0 : whole v cs.length = none → r = some (.rt (rsD (.no v)), st))
    (h1 : ∀ i, whole v cs.length = some i → (seqM duL (seqM duA duF)) (envD k us cs (.str w :: v :: more) (.val (.str w)) (.val (nD i)) (.val (.tup (cs.take i ++ more ++ cs.drop (i + 1)))) .un) st = r) : b__law_due (envD k us cs (.str w :: v :: more) .un .un .un .un) st = r := by
  rw [du_head us cs st w v more h3 hm]
  have t1 := Lx.neS (f := rd 3) (h := cst (.str "add")) (env := envD k us cs (.str w :: v :: more) (.val (.str w)) (.val v) (.val (.tup (cs ++ v :: more))) .un) (st := st) (s1 := st) (s2 := st) rfl rfl hw
  have c1 := Lh.not_of (Lh.tru_of (Lm.call_of (Lm.cons_of (f := rd 4) (env := envD k us cs (.str w :: v :: more) (.val (.str w)) (.val v) (.val (.tup (cs ++ v :: more))) .un) (st := st) (s1 := st) rfl (Lm.cons_of (f := cst (.int 0)) (d := .int 0) (s1 := st) rfl (Lm.cons_of (lenq (f := rd 1) (s1 := st) (ds := cs) rfl) v_aNil))) (intq_law hv 0 (((cs.length : Nat) : Int) - 1) st)))
  rw [← whole_in] at c1
  cases hw2 : whole v cs.length with
  | none =>
    rw [hw2] at c1
    rw [h0 hw2]
    refine Lm.seq_rt (Lm.ifs_t t1 ?_)
    exact Lm.seq_rt (Lm.ifs_t c1 (Lm.ret_of (Lm.lst_of (Lm.cons_of (f := cst (.str "NoCut")) (s1 := st) rfl (Lm.cons_of (f := rd 4) (s1 := st) rfl v_aNil)) (show 2 ≤ 1000000 by decide))))
  | some i =>
    rw [hw2] at c1
    obtain ⟨hi, rfl⟩ := whole_lt hw2
    have e1 : slM slAny (rd 2) (prt (cst (.int 2))) noP (envD k us cs (.str w :: nD i :: more) (.val (.str w)) (.val (nD i)) (.val (.tup (cs ++ nD i :: more))) .un) st = some (.tup more, st) := slT_from (n := 2) (f := rd 2) (s1 := st) (s2 := st) (ds := .str w :: nD i :: more) rfl rfl
    have a1 := around (f := rd 1) (fi := rd 4) (g := slM slAny (rd 2) (prt (cst (.int 2))) noP) (env := envD k us cs (.str w :: nD i :: more) (.val (.str w)) (.val (nD i)) (.val (.tup (cs ++ nD i :: more))) .un) (st := st) (cs := cs) (xs := more) (i := i) h3 (by omega) rfl rfl e1
    have e2 : duN (envD k us cs (.str w :: nD i :: more) (.val (.str w)) (.val (nD i)) (.val (.tup (cs ++ nD i :: more))) .un) st = some (.nx (envD k us cs (.str w :: nD i :: more) (.val (.str w)) (.val (nD i)) (.val (.tup (cs.take i ++ more ++ cs.drop (i + 1)))) .un), st) := by
      unfold duN
      rw [Lm.seq_nx (Lm.ifs_f c1 v_nxM)]
      exact Lm.asg_nx a1
    rw [Lm.seq_nx (Lm.ifs_t t1 e2)]
    exact h1 i hw2
theorem duL_no {w : Str} (hw : decide (w.cps.toList = ("lift" : Str).cps.toList) = false) (es : List D) (x4 x5 x6 : Sl) : duL (envD k us cs es (.val (.str w)) x4 x5 x6) st = some (.nx (envD k us cs es (.val (.str w)) x4 x5 x6), st) :=
  Lm.ifs_f (Lx.eqS (f := rd 3) (h := cst (.str "lift")) (s1 := st) (s2 := st) rfl rfl hw) v_nxM
theorem duA_no {w : Str} (hw : decide (w.cps.toList = ("allow" : Str).cps.toList) = false) (es : List D) (x4 x5 x6 : Sl) : duA (envD k us cs es (.val (.str w)) x4 x5 x6) st = some (.nx (envD k us cs es (.val (.str w)) x4 x5 x6), st) :=
  Lm.ifs_f (Lx.eqS (f := rd 3) (h := cst (.str "allow")) (s1 := st) (s2 := st) rfl rfl hw) v_nxM
end
theorem dueq {k : Nat} (hk : k ≤ 4) (us : List D) {cs : List D} (hc : Cz k us.length cs) (st : S) {e : Ed} (he : e.ql) : m__law_due [.tup [nD k, .tup us], .tup cs, e.d] st = some (rsD (due k us.length cs e), st) := by
  have h3 := hc.n3
  have hcq := hc.ql
  refine Lm.run_of ?_
  cases e with
  | add v =>
    show b__law_due (envD k us cs [.str "add", v] .un .un .un .un) st = _
    rw [du_head us cs st "add" v [] h3 (by simp)]
    have t1 := Lx.neS (f := rd 3) (h := cst (.str "add")) (env := envD k us cs [.str "add", v] (.val (.str "add")) (.val v) (.val (.tup (cs ++ [v]))) .un) (st := st) (s1 := st) (s2 := st) rfl rfl (c := true) (by decide +kernel)
    rw [Lm.seq_nx (Lm.ifs_f t1 v_nxM), Lm.seq_nx (duL_no us cs st (by decide +kernel) _ _ _ _), Lm.seq_nx (duA_no us cs st (by decide +kernel) _ _ _ _)]
    exact duF_ok us cs st hk _ _ _ (by simp; omega) fun d hd => by
      rcases List.mem_append.mp hd with z | z
      · exact hcq d z
      · rw [List.mem_singleton.mp z]; exact he
  | drop v =>
    show b__law_due (envD k us cs [.str "drop", v] .un .un .un .un) st = _
    refine du_at us cs st he [] h3 (by simp) (by decide +kernel) (fun hw => ?_) fun i hw => ?_
    · rw [due_drop hc, hw]
    · have hd : due k us.length cs (.drop v) = chk k us.length (cs.take i ++ [] ++ cs.drop (i + 1)) := by
        unfold due after at' chk; dsimp only; rw [hw, List.append_nil]
      rw [hd, Lm.seq_nx (duL_no us cs st (by decide +kernel) _ _ _ _), Lm.seq_nx (duA_no us cs st (by decide +kernel) _ _ _ _)]
      have hz := cz_drop hc i (whole_lt hw).1
      rw [List.append_nil]
      exact duF_ok us cs st hk _ _ _ (by have := hz.n3; omega) hz.ql
  | change v c =>
    show b__law_due (envD k us cs [.str "change", v, c] .un .un .un .un) st = _
    refine du_at us cs st he.1 [c] h3 (by simp) (by decide +kernel) (fun hw => ?_) fun i hw => ?_
    · unfold due after at'; dsimp only; rw [hw]
    · have hd : due k us.length cs (.change v c) = chk k us.length (cs.take i ++ [c] ++ cs.drop (i + 1)) := by
        unfold due after at' chk; dsimp only; rw [hw]; rfl
      rw [hd, Lm.seq_nx (duL_no us cs st (by decide +kernel) _ _ _ _), Lm.seq_nx (duA_no us cs st (by decide +kernel) _ _ _ _)]
      refine duF_ok us cs st hk _ _ _ (by rw [List.length_append, List.length_append, List.length_take, List.length_drop]; simp; omega) fun d hd => ?_
      rcases List.mem_append.mp hd with z | z
      · rcases List.mem_append.mp z with z | z
        · exact hcq d (List.mem_of_mem_take z)
        · rw [List.mem_singleton.mp z]; exact he.2
      · exact hcq d (List.mem_of_mem_drop z)
  | lift v =>
    show b__law_due (envD k us cs [.str "lift", v] .un .un .un .un) st = _
    refine du_at us cs st he [] h3 (by simp) (by decide +kernel) (fun hw => ?_) fun i hw => ?_
    · rw [due_lift hc, hw]
    · obtain ⟨hi, _⟩ := whole_lt hw
      have hd : due k us.length cs (.lift v) = chk k us.length (lifted cs i) := by
        unfold due after at' chk; dsimp only; rw [hw]
      have hz := cz_lift hc i hi
      have t1 := Lx.eqS (f := rd 3) (h := cst (.str "lift")) (env := envD k us cs [.str "lift", v] (.val (.str "lift")) (.val (nD i)) (.val (.tup (cs.take i ++ [] ++ cs.drop (i + 1)))) .un) (st := st) (s1 := st) (s2 := st) rfl rfl (c := true) (by decide +kernel)
      have t2 := Lh.gt_of (f := rd 4) (h := cst (.int 0)) (env := envD k us cs [.str "lift", v] (.val (.str "lift")) (.val (nD i)) (.val (.tup cs)) .un) (st := st) (s1 := st) (s2 := st) (i := ((i : Nat) : Int)) (j := 0) rfl rfl
      have e2 : duL (envD k us cs [.str "lift", v] (.val (.str "lift")) (.val (nD i)) (.val (.tup (cs.take i ++ [] ++ cs.drop (i + 1)))) .un) st = some (.nx (envD k us cs [.str "lift", v] (.val (.str "lift")) (.val (nD i)) (.val (.tup (lifted cs i))) .un), st) := by
        unfold duL
        refine Lm.ifs_t t1 ?_
        rw [Lm.seq_nx (e := envD k us cs [.str "lift", v] (.val (.str "lift")) (.val (nD i)) (.val (.tup cs)) .un) (Lm.asg_nx (f := rd 1) (s1 := st) rfl)]
        by_cases h0 : i = 0
        · rw [decide_eq_false (by omega)] at t2
          have e : lifted cs i = cs := by unfold lifted; rw [if_pos h0]
          rw [e]
          exact Lm.ifs_f t2 v_nxM
        · rw [decide_eq_true (by omega)] at t2
          exact Lm.ifs_t t2 (Lm.asg_nx (swap (f := rd 1) (fi := rd 4) h3 h0 hi rfl rfl))
      rw [hd, Lm.seq_nx e2, Lm.seq_nx (duA_no us cs st (by decide +kernel) _ _ _ _)]
      exact duF_ok us cs st hk _ _ _ (by have := hz.n3; omega) hz.ql
  | allow v m =>
    show b__law_due (envD k us cs [.str "allow", v, m] .un .un .un .un) st = _
    refine du_at us cs st he.1 [m] h3 (by simp) (by decide +kernel) (fun hw => ?_) fun i hw => ?_
    · unfold due after at'; dsimp only; rw [hw]
    · obtain ⟨hi, _⟩ := whole_lt hw
      obtain ⟨a, b, c, hg0, hg, qa, qc⟩ := cz_at hc hi
      have hd : due k us.length cs (.allow v m) = chk k us.length (cs.take i ++ [.tup [a, m, c]] ++ cs.drop (i + 1)) := by
        unfold due after at' chk
        dsimp only
        rw [hw]
        dsimp only
        rw [hg]; rfl
      have t1 := Lx.eqS (f := rd 3) (h := cst (.str "allow")) (env := envD k us cs [.str "allow", v, m] (.val (.str "allow")) (.val (nD i)) (.val (.tup (cs.take i ++ [m] ++ cs.drop (i + 1)))) .un) (st := st) (s1 := st) (s2 := st) rfl rfl (c := true) (by decide +kernel)
      have e0 : opM subD (rd 1) (rd 4) (envD k us cs [.str "allow", v, m] (.val (.str "allow")) (.val (nD i)) (.val (.tup (cs.take i ++ [m] ++ cs.drop (i + 1)))) .un) st = some (.tup [a, b, c], st) := Lh.sub_tup (f := rd 1) (h := rd 4) (s1 := st) (s2 := st) (ds := cs) (j := ((i : Nat) : Int)) rfl rfl (atI_of hg0)
      obtain ⟨k0, _, k2⟩ := at3 e0
      have e2 : opM subD (rd 2) (cst (.int 2)) (envD k us cs [.str "allow", v, m] (.val (.str "allow")) (.val (nD i)) (.val (.tup (cs.take i ++ [m] ++ cs.drop (i + 1)))) .un) st = some (m, st) := Lh.at_tup (j := 2) (f := rd 2) (s1 := st) (ds := [.str "allow", v, m]) rfl rfl
      have e3 : duA (envD k us cs [.str "allow", v, m] (.val (.str "allow")) (.val (nD i)) (.val (.tup (cs.take i ++ [m] ++ cs.drop (i + 1)))) .un) st = some (.nx (envD k us cs [.str "allow", v, m] (.val (.str "allow")) (.val (nD i)) (.val (.tup (cs.take i ++ [.tup [a, m, c]] ++ cs.drop (i + 1)))) .un), st) :=
        Lm.ifs_t t1 (Lm.asg_nx (around (f := rd 1) (fi := rd 4) h3 (by simp) rfl rfl (Lm.tup1 (Lx.tup3 k0 e2 k2))))
      rw [hd, Lm.seq_nx (duL_no us cs st (by decide +kernel) _ _ _ _), Lm.seq_nx e3]
      refine duF_ok us cs st hk _ _ _ (by rw [List.length_append, List.length_append, List.length_take, List.length_drop]; simp; omega) fun d hd => ?_
      rcases List.mem_append.mp hd with z | z
      · rcases List.mem_append.mp z with z | z
        · exact hcq d (List.mem_of_mem_take z)
        · rw [List.mem_singleton.mp z]
          exact qlA fun x hx => by
            simp only [List.mem_cons, List.not_mem_nil, or_false] at hx
            rcases hx with rfl | rfl | rfl
            · exact qa
            · exact he.2
            · exact qc
      · exact hcq d (List.mem_of_mem_drop z)
end Lw
set_option Elab.async false
set_option linter.all false
set_option maxRecDepth 100000
set_option maxHeartbeats 2000000
namespace Lw
open PySem MD L2 Lc
variable {ww : WW}
noncomputable def Vx (f : ME) (env : Sg) (n b : Nat) : Prop := ∃ d, (∀ s : S, f env s = some (d, s)) ∧ Gd d n b
noncomputable def Al (a : MA) (env : Sg) (m n b : Nat) : Prop := ∃ ds, (∀ s : S, a env s = some (ds, s)) ∧ ds.length = m ∧ Gds ds n b
section
variable {f : ME} {a : MA} {env : Sg} {m n n' b c : Nat}
theorem vx_cst {d : D} (h : Gd d n b) : Vx (cst d) env n b := ⟨d, fun s => rfl, h⟩
theorem vx_int {i : Int} (h : i.natAbs < 10 ^ 44) : Vx (cst (.int i)) env 0 0 := vx_cst (Gd.int h)
theorem gd_s {x : Str} (h1 : x.cps.toList.all (fun c => decide (c < 16 ^ 8)) = true) (h2 : x.cps.size ≤ 10) : Gd (.str x) 0 10 := Gd.str h1 h2
theorem vx_dic : Vx (frzK newK) env 1 0 := ⟨.dic [] [], fun s => rfl, Gd.dic⟩
theorem vx_neg : Vx (unM (unI fun i => .int (-i)) (cst (.int 1))) env 0 0 := ⟨.int (-1), fun s => rfl, Gd.int (by decide)⟩
theorem al_nil : Al aNil env 0 n 0 := ⟨[], fun s => rfl, rfl, Gds.nil⟩
theorem al_cons (h : Vx f env n' b) (hr : Al a env m n c) (hn : n' ≤ n) : Al (aCons f a) env (m + 1) n (b + 1 + c) := by
  obtain ⟨d, h1, h2⟩ := h
  obtain ⟨ds, h3, h4, h5⟩ := hr
  exact ⟨d :: ds, fun s => Lm.cons_of (h1 s) (h3 s), by rw [List.length_cons, h4], Gds.cons (h2.mono hn (Nat.le_refl _)) h5⟩
theorem vx_tup (h : Al a env m n b) (hm : m ≤ 1000) : Vx (tupM a) env (n + 1) b := by
  obtain ⟨ds, h3, h4, h5⟩ := h
  refine ⟨.tup ds, fun s => ?_, Gd.tup h5⟩
  rw [v_tupM, h3 s, Option.bind_some]
  exact grd_of (show ds.length ≤ 1000000 by omega)
theorem vx_lst (h : Al a env m n b) (hm : m ≤ 1000) : Vx (frz (lstM a)) env (n + 1) b := by
  obtain ⟨ds, h3, h4, h5⟩ := h
  exact ⟨.lst ds, fun s => Lm.lst_of (h3 s) (by omega), Gd.lst h5⟩
theorem al_lst (h : Al a env m n b) (hm : m ≤ 1000) : ∃ ds, (∀ s : S, frz (lstM a) env s = some (.lst ds, s)) ∧ ds.length = m ∧ Gds ds n b := by
  obtain ⟨ds, h3, h4, h5⟩ := h
  exact ⟨ds, fun s => Lm.lst_of (h3 s) (by omega), h4, h5⟩
end
theorem vx_pow {env : Sg} : Vx (opM powM (cst (.int 10)) (cst (.int 30))) env 0 0 := ⟨.int (10 ^ 30), fun s => by
  rw [v_opM]; rfl, Gd.int (by decide)⟩
theorem Gds.mem {ds : List D} {n b : Nat} (h : Gds ds n b) {d : D} (hd : d ∈ ds) : Gd d n b := by
  refine ⟨h.g d hd, Nat.le_trans ?_ h.k⟩
  clear h
  induction ds with
  | nil => cases hd
  | cons x r ih =>
    show bk d ≤ bk x + 1 + bks' r
    rcases List.mem_cons.mp hd with z | z
    · rw [z]; omega
    · have := ih z; omega
/-- one of a list -/
theorem one_in {f : ME} {env : Sg} {ds : List D} (hd : ∀ s : S, rd 0 env s = some (.deck, s)) (h0 : ds ≠ []) (hl : ds.length ≤ 1000) (hf : ∀ s : S, f env s = some (.lst ds, s)) : YesO 1 (callM m__law_one (aCons (rd 0) (aCons f aNil)) env) fun d => d ∈ ds := fun st h hn => by
  obtain ⟨d, s1, e, hd2, o, l1, l2⟩ := one_lst (ds := ds) (st := st) h0 hl h (by omega)
  exact ⟨d, s1, Lm.call_of (Lm.cons_of (hd st) (Lm.cons_of (hf st) v_aNil)) e, hd2, o, l1, by omega⟩
theorem YesO.mono {α : Type} {c c' : Nat} {o : S → Option (α × S)} {P Q : α → Prop} (h : YesO c o P) (hc : c ≤ c') (hq : ∀ a, P a → Q a) : YesO c' o Q := fun st h0 hn => by
  obtain ⟨a, s1, e, p, ho, l1, l2⟩ := h st h0 (by omega)
  exact ⟨a, s1, e, hq a p, ho, l1, by omega⟩
theorem CuOk.c {k U : Nat} {c : Nat × Nat × List Nat} (h : CuOk k U c) : isC k U (cuD c) = true := by
  obtain ⟨h1, h2, h3⟩ := h
  have e1 : isIn (nD c.1) 0 ((U : Int) - 1) = true := decide_eq_true ⟨by omega, by omega⟩
  have e2 : isIn (nD c.2.1) 0 20 = true := decide_eq_true ⟨by omega, by omega⟩
  have e3 : clD k (.str (W c.2.2)) = true := by
    show clB k (W c.2.2).cps.toList = true
    rw [W_list]
    exact decide_eq_true h3
  show ((isIn (nD c.1) 0 ((U : Int) - 1) && isIn (nD c.2.1) 0 20) && clD k (.str (W c.2.2))) = true
  rw [e1, e2, e3]; rfl
end Lw
set_option Elab.async false
set_option linter.all false
set_option maxRecDepth 100000
set_option maxHeartbeats 2000000
namespace Lw
open PySem MD L2 Lc
variable {ww : WW}
section
variable {env : Sg}
noncomputable abbrev s0 : D := .str ""
theorem g_s {x : Str} (h1 : x.cps.toList.all (fun c => decide (c < 16 ^ 8)) = true) (h2 : x.cps.size ≤ 10) : Vx (cst (.str x)) env 0 10 := vx_cst (gd_s h1 h2)
theorem g_0 : Vx (cst (.str "0")) env 0 10 := g_s (by decide +kernel) (by decide +kernel)
theorem g_1 : Vx (cst (.str "1")) env 0 10 := g_s (by decide +kernel) (by decide +kernel)
theorem g_e : Vx (cst (.str "")) env 0 10 := g_s (by decide +kernel) (by decide +kernel)
theorem g_aa : Vx (cst (.str "aa")) env 0 10 := g_s (by decide +kernel) (by decide +kernel)
theorem g_ba : Vx (cst (.str "ba")) env 0 10 := g_s (by decide +kernel) (by decide +kernel)
theorem g_E : Vx (cst (.str "e")) env 0 10 := g_s (by decide +kernel) (by decide +kernel)
theorem g_a : Vx (cst (.str "a")) env 0 10 := g_s (by decide +kernel) (by decide +kernel)
theorem g_i {i : Int} (h : i.natAbs < 10 ^ 44 := by decide) : Vx (cst (.int i)) env 0 0 := vx_int h
theorem g_non : Vx (cst .non) env 0 0 := vx_cst Gd.non
theorem g_bl (b : Bool) : Vx (cst (.bl b)) env 0 0 := vx_cst (Gd.bl b)
theorem t1 {f : ME} {n b : Nat} (h : Vx f env n b) : Vx (tupM (aCons f aNil)) env (n + 1) (b + 1 + 0) := vx_tup (al_cons h al_nil (Nat.le_refl _)) (by decide)
theorem l1 {f : ME} {n b : Nat} (h : Vx f env n b) : Vx (frz (lstM (aCons f aNil))) env (n + 1) (b + 1 + 0) := vx_lst (al_cons h al_nil (Nat.le_refl _)) (by decide)
theorem t0 : Vx (tupM aNil) env 1 0 := vx_tup (n := 0) al_nil (by decide)
theorem l0 : Vx (frz (lstM aNil)) env 1 0 := vx_lst (n := 0) al_nil (by decide)
theorem t3 {f g h : ME} {n1 n2 n3 a b c : Nat} (h1 : Vx f env n1 a) (h2 : Vx g env n2 b) (h3 : Vx h env n3 c) (q1 : n1 ≤ 1 := by decide) (q2 : n2 ≤ 1 := by decide) (q3 : n3 ≤ 1 := by decide) : Vx (tupM (aCons f (aCons g (aCons h aNil)))) env 2 (a + 1 + (b + 1 + (c + 1 + 0))) := vx_tup (al_cons h1 (al_cons h2 (al_cons h3 al_nil q3) q2) q1) (by decide)
theorem l3 {f g h : ME} {n1 n2 n3 a b c : Nat} (h1 : Vx f env n1 a) (h2 : Vx g env n2 b) (h3 : Vx h env n3 c) (q1 : n1 ≤ 1 := by decide) (q2 : n2 ≤ 1 := by decide) (q3 : n3 ≤ 1 := by decide) : Vx (frz (lstM (aCons f (aCons g (aCons h aNil))))) env 2 (a + 1 + (b + 1 + (c + 1 + 0))) := vx_lst (al_cons h1 (al_cons h2 (al_cons h3 al_nil q3) q2) q1) (by decide)
theorem t2' {f g : ME} {n1 n2 a b : Nat} (h1 : Vx f env n1 a) (h2 : Vx g env n2 b) (q1 : n1 ≤ 1 := by decide) (q2 : n2 ≤ 1 := by decide) : Vx (tupM (aCons f (aCons g aNil))) env 2 (a + 1 + (b + 1 + 0)) := vx_tup (al_cons h1 (al_cons h2 al_nil q2) q1) (by decide)
theorem t4 {f g h k : ME} {n1 n2 n3 n4 a b c d : Nat} (h1 : Vx f env n1 a) (h2 : Vx g env n2 b) (h3 : Vx h env n3 c) (h4 : Vx k env n4 d) (q1 : n1 ≤ 1 := by decide) (q2 : n2 ≤ 1 := by decide) (q3 : n3 ≤ 1 := by decide) (q4 : n4 ≤ 1 := by decide) : Vx (tupM (aCons f (aCons g (aCons h (aCons k aNil))))) env 2 (a + 1 + (b + 1 + (c + 1 + (d + 1 + 0)))) := vx_tup (al_cons h1 (al_cons h2 (al_cons h3 (al_cons h4 al_nil q4) q3) q2) q1) (by decide)
theorem ac {f : ME} {a : MA} {m n' b c : Nat} (h : Vx f env n' b) (hr : Al a env m 3 c) (hn : n' ≤ 3 := by decide) : Al (aCons f a) env (m + 1) 3 (b + 1 + c) := al_cons h hr hn
theorem Gds.ne {ds : List D} {m : Nat} (h : ds.length = m + 1) : ds ≠ [] := fun z => by rw [z] at h; cases h
noncomputable def oddA : MA := (aCons (cst .non) (aCons (cst (.str "0")) (aCons (tupM (aCons (cst (.int 0)) (aCons (cst (.int 1)) aNil))) (aCons (tupM (aCons (cst (.int 0)) (aCons (cst (.int 1)) (aCons (cst (.str "")) (aCons (cst (.str "")) aNil))))) (aCons (frz (lstM (aCons (cst (.int 0)) (aCons (cst (.int 1)) (aCons (cst (.str "")) aNil))))) (aCons (tupM (aCons (cst (.int 0)) (aCons (cst (.int 21)) (aCons (cst (.str "")) aNil)))) (aCons (tupM (aCons (cst (.int 2)) (aCons (cst (.int 1)) (aCons (cst (.str "")) aNil)))) (aCons (tupM (aCons (cst (.int 0)) (aCons (unM (unI fun i => .int (-i)) (cst (.int 1))) (aCons (cst (.str "")) aNil)))) (aCons (tupM (aCons (cst (.bl true)) (aCons (cst (.int 1)) (aCons (cst (.str "")) aNil)))) aNil)))))))))
noncomputable def oddB : MA := (aCons (tupM (aCons (cst (.int 0)) (aCons (cst (.bl true)) (aCons (cst (.str "")) aNil)))) (aCons (tupM (aCons (cst (.int 0)) (aCons (cst (.int 1)) (aCons (cst .non) aNil)))) (aCons (tupM (aCons (cst (.int 0)) (aCons (cst (.int 1)) (aCons (cst (.str "aa")) aNil)))) (aCons (tupM (aCons (cst (.int 0)) (aCons (cst (.int 1)) (aCons (cst (.str "ba")) aNil)))) (aCons (tupM (aCons (cst (.int 0)) (aCons (cst (.int 1)) (aCons (cst (.str "e")) aNil)))) (aCons (tupM (aCons (cst (.int 0)) (aCons (cst (.int 1)) (aCons (frz (lstM (aCons (cst (.str "a")) aNil))) aNil)))) (aCons (frzK newK) (aCons (cst (.int 7)) (aCons (tupM aNil) aNil)))))))))
noncomputable def oddC : MA := (aCons (tupM (aCons (cst (.str "0")) (aCons (cst (.int 1)) (aCons (cst (.str "")) aNil)))) (aCons (tupM (aCons (cst (.int 0)) (aCons (cst (.str "1")) (aCons (cst (.str "")) aNil)))) (aCons (tupM (aCons (frz (lstM aNil)) (aCons (frzK newK) (aCons (cst (.str "")) aNil)))) (aCons (tupM (aCons (cst (.int 0)) (aCons (opM powM (cst (.int 10)) (cst (.int 30))) (aCons (cst (.str "")) aNil)))) aNil))))
noncomputable def ixA : MA := (aCons (rd 1) (aCons (unM (unI fun i => .int (-i)) (cst (.int 1))) (aCons (cst (.bl true)) (aCons (cst .non) (aCons (cst (.str "0")) (aCons (tupM (aCons (cst (.int 0)) aNil)) (aCons (frz (lstM (aCons (cst (.int 0)) aNil))) (aCons (opM powM (cst (.int 10)) (cst (.int 30))) (aCons (frzK newK) (aCons (tupM aNil) aNil))))))))))
noncomputable abbrev envS (k : Nat) (us : List D) (x : Sl) : Sg := [.val .deck, .val (.tup [nD k, .tup us]), x]
theorem some_yes {k : Nat} (hk : k ≤ 4) {us : List D} (hu0 : 1 ≤ us.length) (hu : us.length ≤ 2) : YesO 8 (m__law_some [.deck, .tup [nD k, .tup us]]) fun d => Gd d 3 400 := by
  intro st h0 hn
  have hb : b__law_some = (seqM (ifS (tstM (opM eqM (callM m__law_draw (aCons (rd 0) (aCons (cst (.int 7)) aNil))) (cst (.int 0))))
 (seqM (asgM (nameT 2) (frz (lstM oddA)))
 (seqM (asgM (nameT 2) (opM addM (rd 2) (frz (lstM oddB))))
 (retM (callM m__law_one (aCons (rd 0) (aCons (opM addM (rd 2) (frz (lstM oddC))) aNil))))))
 nxM)
 (retM (callM m__law_cut (aCons (rd 0) (aCons (opM subD (rd 1) (cst (.int 0))) (aCons (opM subD (rd 1) (cst (.int 1))) (aCons (callM m__law_one (aCons (rd 0) (aCons (frz (lstM (aCons (cst (.int 2)) (aCons (cst (.int 4)) (aCons (cst (.int 5)) aNil))))) aNil))) aNil))))))) := rfl
  obtain ⟨_, s1, e1, ⟨r, rfl, hr⟩, o1, l1', l2⟩ := drw (f := cst (.int 7)) (m := 7) (env := envS k us .un) (by decide) (by decide) (fun s => rfl) (fun s => rfl) st h0 (nw hn (by decide))
  have t := Lh.eq_int (h := cst (.int 0)) (j := 0) (s2 := s1) e1 rfl
  by_cases hz : ((r : Nat) : Int) = 0
  · rw [decide_eq_true hz] at t
    obtain ⟨xs, x1, x2, x3⟩ := al_lst (a := oddA) (env := envS k us .un) (ac g_non (ac g_0 (ac (t2' g_i g_i) (ac (t4 g_i g_i g_e g_e) (ac (l3 g_i g_i g_e) (ac (t3 g_i g_i g_e) (ac (t3 g_i g_i g_e) (ac (t3 g_i vx_neg g_e) (ac (t3 (g_bl _) g_i g_e) al_nil))))))))) (by decide)
    obtain ⟨ys, y1, y2, y3⟩ := al_lst (a := oddB) (env := envS k us (.val (.lst xs))) (ac (t3 g_i (g_bl _) g_e) (ac (t3 g_i g_i g_non) (ac (t3 g_i g_i g_aa) (ac (t3 g_i g_i g_ba) (ac (t3 g_i g_i g_E) (ac (t3 g_i g_i (l1 g_a)) (ac vx_dic (ac g_i (ac t0 al_nil))))))))) (by decide)
    obtain ⟨zs, z1, z2, z3⟩ := al_lst (a := oddC) (env := envS k us (.val (.lst (xs ++ ys)))) (ac (t3 g_0 g_i g_e) (ac (t3 g_i g_1 g_e) (ac (t3 l0 vx_dic g_e) (ac (t3 g_i vx_pow g_e) al_nil)))) (by decide)
    have a1 := fun s : S => Lm.add_lst (f := rd 2) (env := envS k us (.val (.lst xs))) (st := s) (s1 := s) (xs := xs) rfl (y1 s) (by rw [x2, y2]; decide)
    have a2 := fun s : S => Lm.add_lst (f := rd 2) (env := envS k us (.val (.lst (xs ++ ys)))) (st := s) (s1 := s) (xs := xs ++ ys) rfl (z1 s) (by rw [List.length_append, x2, y2, z2]; decide)
    have hl : (xs ++ ys ++ zs).length = 21 + 1 := by rw [List.length_append, List.length_append, x2, y2, z2]
    obtain ⟨d, s2, e2, hd, o2, l3, l4⟩ := one_in (ds := xs ++ ys ++ zs) (env := envS k us (.val (.lst (xs ++ ys)))) (fun s => rfl) (Gds.ne hl) (by rw [hl]; decide) a2 s1 (Int.le_trans h0 l1') (nb hn l2 (by decide))
    refine ⟨d, s2, Lm.run_of ?_, ((Gds.app (Gds.app x3 y3) z3).mem hd).mono (Nat.le_refl _) (by decide), o2.trans o1, Int.le_trans l1' l3, nl l2 l4 (by decide)⟩
    show b__law_some (envS k us .un) st = _
    rw [hb]
    refine Lm.seq_rt (Lm.ifs_t t ?_)
    rw [Lm.seq_nx (e := envS k us (.val (.lst xs))) (Lm.asg_nx (x1 s1)), Lm.seq_nx (e := envS k us (.val (.lst (xs ++ ys)))) (Lm.asg_nx (a1 s1))]
    exact Lm.ret_of e2
  · rw [decide_eq_false hz] at t
    obtain ⟨d, s2, e2, hd, o2, l3, l4⟩ := one_in (ds := [nD 2, nD 4, nD 5]) (f := frz (lstM (aCons (cst (.int 2)) (aCons (cst (.int 4)) (aCons (cst (.int 5)) aNil))))) (env := envS k us .un) (fun s => rfl) (by simp) (by simp) (fun s => rfl) s1 (Int.le_trans h0 l1') (nb hn l2 (by decide))
    have l24 := nl (c := 2) l2 l4 (by decide)
    obtain ⟨T, rfl, hT⟩ : ∃ T : Nat, d = nD T ∧ T ≤ 20 := by
      simp only [List.mem_cons, List.not_mem_nil, or_false] at hd
      rcases hd with rfl | rfl | rfl
      · exact ⟨2, rfl, by decide⟩
      · exact ⟨4, rfl, by decide⟩
      · exact ⟨5, rfl, by decide⟩
    obtain ⟨_, s3, e3, ⟨c, rfl, hc⟩, o3, l5, l6⟩ := cut_yes hk hT hu0 hu s2 (Int.le_trans h0 (Int.le_trans l1' l3)) (nb hn l24 (by decide))
    have k0 : opM subD (rd 1) (cst (.int 0)) (envS k us .un) s1 = some (nD k, s1) := Lh.at_tup (j := 0) (f := rd 1) (s1 := s1) (ds := [nD k, .tup us]) rfl rfl
    have k1 : opM subD (rd 1) (cst (.int 1)) (envS k us .un) s1 = some (.tup us, s1) := Lh.at_tup (j := 1) (f := rd 1) (s1 := s1) (ds := [nD k, .tup us]) rfl rfl
    refine ⟨cuD c, s3, Lm.run_of ?_, (isC_gd hk hu hc.c).mono (by decide) (by decide), (o3.trans o2).trans o1, Int.le_trans (Int.le_trans l1' l3) l5, nl l24 l6 (by decide)⟩
    show b__law_some (envS k us .un) st = _
    rw [hb, Lm.seq_nx (Lm.ifs_f t v_nxM)]
    exact Lm.ret_of (Lm.call_of (Lm.cons_of (f := rd 0) (s1 := s1) rfl (Lm.cons_of k0 (Lm.cons_of k1 (Lm.cons_of e2 v_aNil)))) e3)
theorem vx_rd {i : Nat} {d : D} {n b : Nat} (h : ∀ s : S, rd i env s = some (d, s)) (g : Gd d n b) : Vx (rd i) env n b := ⟨d, h, g⟩
theorem index_yes {n : Nat} (hn3 : n ≤ 3) : YesO 2 (m__law_index [.deck, nD n]) fun d => Gd d 3 400 := by
  intro st h0 hn
  let E0 : Sg := [.val .deck, .val (nD n)]
  have hb : b__law_index = (seqM (ifS (andM (tstM (opM gtM (rd 1) (cst (.int 0)))) (tstM (opM gtM (callM m__law_draw (aCons (rd 0) (aCons (cst (.int 6)) aNil))) (cst (.int 0)))))
 (retM (callM m__law_draw (aCons (rd 0) (aCons (rd 1) aNil))))
 nxM)
 (retM (callM m__law_one (aCons (rd 0) (aCons (frz (lstM ixA)) aNil))))) := rfl
  obtain ⟨xs, x1, x2, x3⟩ := al_lst (a := ixA) (env := E0) (ac (vx_rd (i := 1) (d := nD n) (fun s => rfl) (Gd.nat (by omega))) (ac vx_neg (ac (g_bl _) (ac g_non (ac g_0 (ac (t1 g_i) (ac (l1 g_i) (ac vx_pow (ac vx_dic (ac t0 al_nil)))))))))) (by decide)
  have last : ∀ s1 : S, 0 ≤ s1.n → s1.n + ((1 : Nat) : Int) ≤ nMax → ∃ d s2, callM m__law_one (aCons (rd 0) (aCons (frz (lstM ixA)) aNil)) E0 s1 = some (d, s2) ∧ Gd d 3 400 ∧ s2.ob = s1.ob ∧ s1.n ≤ s2.n ∧ s2.n ≤ s1.n + ((1 : Nat) : Int) := fun s1 h1 h2 => by
    obtain ⟨d, s2, e2, hd, o2, l3, l4⟩ := one_in (ds := xs) (env := E0) (fun s => rfl) (Gds.ne x2) (by rw [x2]; decide) x1 s1 h1 h2
    exact ⟨d, s2, e2, (x3.mem hd).mono (Nat.le_refl _) (by decide), o2, l3, l4⟩
  have t0 := Lh.gt_of (f := rd 1) (h := cst (.int 0)) (env := E0) (st := st) (s1 := st) (s2 := st) (i := ((n : Nat) : Int)) (j := 0) rfl rfl
  by_cases hz : n = 0
  · rw [decide_eq_false (by omega)] at t0
    obtain ⟨d, s2, e2, g, o2, l3, l4⟩ := last st h0 (nw hn (by decide))
    refine ⟨d, s2, Lm.run_of ?_, g, o2, l3, nu l4 (by decide)⟩
    show b__law_index E0 st = _
    rw [hb, Lm.seq_nx (Lm.ifs_f (Lh.and_f t0) v_nxM)]
    exact Lm.ret_of e2
  · rw [decide_eq_true (by omega)] at t0
    obtain ⟨_, s1, e1, ⟨r, rfl, hr⟩, o1, l1, l2⟩ := drw (f := cst (.int 6)) (m := 6) (env := E0) (by decide) (by decide) (fun s => rfl) (fun s => rfl) st h0 (nw hn (by decide))
    have t := Lh.gt_of (h := cst (.int 0)) (j := 0) (s2 := s1) e1 rfl
    by_cases h6 : r = 0
    · rw [decide_eq_false (by omega)] at t
      obtain ⟨d, s2, e2, g, o2, l3, l4⟩ := last s1 (Int.le_trans h0 l1) (nb hn l2 (by decide))
      refine ⟨d, s2, Lm.run_of ?_, g, o2.trans o1, Int.le_trans l1 l3, nl l2 l4 (by decide)⟩
      show b__law_index E0 st = _
      rw [hb, Lm.seq_nx (Lm.ifs_f (Lh.and_t t0 t) v_nxM)]
      exact Lm.ret_of e2
    · rw [decide_eq_true (by omega)] at t
      obtain ⟨_, s2, e2, ⟨q, rfl, hq⟩, o2, l3, l4⟩ := drw (f := rd 1) (m := n) (env := E0) (by omega) (by omega) (fun s => rfl) (fun s => rfl) s1 (Int.le_trans h0 l1) (nb hn l2 (by decide))
      refine ⟨nD q, s2, Lm.run_of ?_, (Gd.nat (by omega)).mono (by decide) (by decide), o2.trans o1, Int.le_trans l1 l3, nl l2 l4 (by decide)⟩
      show b__law_index E0 st = _
      rw [hb]
      exact Lm.seq_rt (Lm.ifs_t (Lh.and_t t0 t) (Lm.ret_of e2))
end
end Lw
set_option Elab.async false
set_option linter.all false
set_option maxRecDepth 100000
set_option maxHeartbeats 2000000
namespace Lw
open PySem MD L2 Lc
variable {ww : WW}
noncomputable def Ed.gd : Ed → Prop
  | .add v => Gd v 3 400
  | .drop v => Gd v 3 400
  | .change v c => Gd v 3 400 ∧ Gd c 3 400
  | .lift v => Gd v 3 400
  | .allow v m => Gd v 3 400 ∧ Gd m 3 400
theorem Ed.gd.ql {e : Ed} (h : e.gd) : e.ql := by
  cases e with
  | add v => exact Gd.g h |>.ql
  | drop v => exact Gd.g h |>.ql
  | change v c => exact ⟨h.1.g.ql, h.2.g.ql⟩
  | lift v => exact Gd.g h |>.ql
  | allow v m => exact ⟨h.1.g.ql, h.2.g.ql⟩
noncomputable def alA : MA := (aCons (cst (.int 0)) (aCons (cst (.int 1)) (aCons (cst (.int 2)) (aCons (cst (.int 3)) (aCons (cst (.int 4)) (aCons (cst (.int 5)) (aCons (cst (.int 5)) (aCons (cst (.int 4)) (aCons (cst (.int 3)) (aCons (unM (unI fun i => .int (-i)) (cst (.int 1))) (aCons (cst (.int 21)) (aCons (cst (.bl true)) (aCons (cst .non) (aCons (cst (.str "1")) (aCons (tupM aNil) (aCons (opM powM (cst (.int 10)) (cst (.int 30))) aNil))))))))))))))))
noncomputable abbrev envG (k : Nat) (us cs : List D) (x3 x4 : Sl) : Sg := [.val .deck, .val (.tup [nD k, .tup us]), .val (.tup cs), x3, x4]
theorem edit_yes {k : Nat} (hk : k ≤ 4) {us : List D} (hu0 : 1 ≤ us.length) (hu : us.length ≤ 2) {cs : List D} (h3 : cs.length ≤ 3) : YesO 11 (m__law_edit [.deck, .tup [nD k, .tup us], .tup cs]) fun d => ∃ e : Ed, d = e.d ∧ e.gd := by
  intro st h0 hn
  have hb : b__law_edit = (seqM (asgM (nameT 3) (callM m__law_one (aCons (rd 0) (aCons (frz (lstM (aCons (cst (.str "add")) (aCons (cst (.str "add")) (aCons (cst (.str "drop")) (aCons (cst (.str "drop")) (aCons (cst (.str "change")) (aCons (cst (.str "change")) (aCons (cst (.str "lift")) (aCons (cst (.str "allow")) (aCons (cst (.str "allow")) aNil))))))))))) aNil))))
 (seqM (ifS (tstM (opM eqM (rd 3) (cst (.str "add"))))
 (retM (tupM (aCons (rd 3) (aCons (callM m__law_some (aCons (rd 0) (aCons (rd 1) aNil))) aNil))))
 nxM)
 (seqM (asgM (nameT 4) (callM m__law_index (aCons (rd 0) (aCons (cbM lenA (aCons (rd 2) aNil)) aNil))))
 (seqM (ifS (tstM (opM eqM (rd 3) (cst (.str "allow"))))
 (retM (tupM (aCons (rd 3) (aCons (rd 4) (aCons (callM m__law_one (aCons (rd 0) (aCons (frz (lstM alA)) aNil))) aNil)))))
 nxM)
 (retM (ifM (tstM (opM eqM (rd 3) (cst (.str "change")))) (tupM (aCons (rd 3) (aCons (rd 4) (aCons (callM m__law_some (aCons (rd 0) (aCons (rd 1) aNil))) aNil)))) (tupM (aCons (rd 3) (aCons (rd 4) aNil))))))))) := rfl
  obtain ⟨w, s1, e1, hw, o1, l1, l2⟩ := one_in (ds := [.str "add", .str "add", .str "drop", .str "drop", .str "change", .str "change", .str "lift", .str "allow", .str "allow"]) (f := frz (lstM (aCons (cst (.str "add")) (aCons (cst (.str "add")) (aCons (cst (.str "drop")) (aCons (cst (.str "drop")) (aCons (cst (.str "change")) (aCons (cst (.str "change")) (aCons (cst (.str "lift")) (aCons (cst (.str "allow")) (aCons (cst (.str "allow")) aNil))))))))))) (env := envG k us cs .un .un) (fun s => rfl) (by simp) (by simp) (fun s => rfl) st h0 (nw hn (by decide))
  have h1 := Int.le_trans h0 l1
  have go : b__law_edit (envG k us cs .un .un) st = (seqM (ifS (tstM (opM eqM (rd 3) (cst (.str "add"))))
 (retM (tupM (aCons (rd 3) (aCons (callM m__law_some (aCons (rd 0) (aCons (rd 1) aNil))) aNil))))
 nxM)
 (seqM (asgM (nameT 4) (callM m__law_index (aCons (rd 0) (aCons (cbM lenA (aCons (rd 2) aNil)) aNil))))
 (seqM (ifS (tstM (opM eqM (rd 3) (cst (.str "allow"))))
 (retM (tupM (aCons (rd 3) (aCons (rd 4) (aCons (callM m__law_one (aCons (rd 0) (aCons (frz (lstM alA)) aNil))) aNil)))))
 nxM)
 (retM (ifM (tstM (opM eqM (rd 3) (cst (.str "change")))) (tupM (aCons (rd 3) (aCons (rd 4) (aCons (callM m__law_some (aCons (rd 0) (aCons (rd 1) aNil))) aNil)))) (tupM (aCons (rd 3) (aCons (rd 4) aNil)))))))) (envG k us cs (.val w) .un) s1 := by
    rw [hb, Lm.seq_nx (e := envG k us cs (.val w) .un) (Lm.asg_nx e1)]
  -- an index
  have ix : ∀ x : Str, ∃ (v : D) (s2 : S), asgM (nameT 4) (callM m__law_index (aCons (rd 0) (aCons (cbM lenA (aCons (rd 2) aNil)) aNil))) (envG k us cs (.val (.str x)) .un) s1 = some (.nx (envG k us cs (.val (.str x)) (.val v)), s2) ∧ Gd v 3 400 ∧ s2.ob = s1.ob ∧ s1.n ≤ s2.n ∧ s2.n ≤ s1.n + ((2 : Nat) : Int) := fun x => by
    obtain ⟨v, s2, e2, g, o2, l3, l4⟩ := index_yes h3 s1 h1 (nb hn l2 (by decide))
    have hl := lenT (f := rd 2) (env := envG k us cs (.val (.str x)) .un) (st := s1) (s1 := s1) (ds := cs) rfl
    exact ⟨v, s2, Lm.asg_nx (Lm.call_of (Lm.cons_of (f := rd 0) (s1 := s1) rfl (Lm.cons_of hl v_aNil)) e2), g, o2, l3, l4⟩
  have fin : ∀ {e : Ed} {s2 : S}, b__law_edit (envG k us cs .un .un) st = some (.rt e.d, s2) → e.gd → s2.ob = s1.ob → s1.n ≤ s2.n → s2.n ≤ s1.n + ((10 : Nat) : Int) → ∃ a st', m__law_edit [.deck, .tup [nD k, .tup us], .tup cs] st = some (a, st') ∧ (∃ e : Ed, a = e.d ∧ e.gd) ∧ st'.ob = st.ob ∧ st.n ≤ st'.n ∧ st'.n ≤ st.n + ((11 : Nat) : Int) := fun {e} {s2} h1 h2 h3 h4 h5 => ⟨e.d, s2, Lm.run_of h1, ⟨e, rfl, h2⟩, h3.trans o1, Int.le_trans l1 h4, nl l2 h5 (by decide)⟩
  have hw' : w = .str "add" ∨ w = .str "drop" ∨ w = .str "change" ∨ w = .str "lift" ∨ w = .str "allow" := by
    simp only [List.mem_cons, List.not_mem_nil, or_false] at hw
    rcases hw with h | h | h | h | h | h | h | h | h
    · exact .inl h
    · exact .inl h
    · exact .inr (.inl h)
    · exact .inr (.inl h)
    · exact .inr (.inr (.inl h))
    · exact .inr (.inr (.inl h))
    · exact .inr (.inr (.inr (.inl h)))
    · exact .inr (.inr (.inr (.inr h)))
    · exact .inr (.inr (.inr (.inr h)))
  clear hw hb e1
  rcases hw' with rfl | rfl | rfl | rfl | rfl
  · obtain ⟨v, s2, e2, g, o2, l3, l4⟩ := some_yes hk hu0 hu s1 h1 (nb hn l2 (by decide))
    have t1 := Lx.eqS (f := rd 3) (h := cst (.str "add")) (env := envG k us cs (.val (.str "add")) .un) (st := s1) (s1 := s1) (s2 := s1) rfl rfl (c := true) (by decide +kernel)
    refine fin (e := .add v) (s2 := s2) ?_ g o2 l3 (nu l4 (by decide))
    rw [go]
    exact Lm.seq_rt (Lm.ifs_t t1 (Lm.ret_of (Lh.tup2 (f := rd 3) (s1 := s1) rfl (Lm.call_of (Lm.cons_of (f := rd 0) (s1 := s1) rfl (Lm.cons_of (f := rd 1) (s1 := s1) rfl v_aNil)) e2))))
  · obtain ⟨v, s2, e2, g, o2, l3, l4⟩ := ix "drop"
    have t1 := Lx.eqS (f := rd 3) (h := cst (.str "add")) (env := envG k us cs (.val (.str "drop")) .un) (st := s1) (s1 := s1) (s2 := s1) rfl rfl (c := false) (by decide +kernel)
    have t2 := Lx.eqS (f := rd 3) (h := cst (.str "allow")) (env := envG k us cs (.val (.str "drop")) (.val v)) (st := s2) (s1 := s2) (s2 := s2) rfl rfl (c := false) (by decide +kernel)
    have t3 := Lx.eqS (f := rd 3) (h := cst (.str "change")) (env := envG k us cs (.val (.str "drop")) (.val v)) (st := s2) (s1 := s2) (s2 := s2) rfl rfl (c := false) (by decide +kernel)
    refine fin (e := .drop v) (s2 := s2) ?_ g o2 l3 (nu l4 (by decide))
    rw [go, Lm.seq_nx (Lm.ifs_f t1 v_nxM), Lm.seq_nx e2, Lm.seq_nx (Lm.ifs_f t2 v_nxM)]
    exact Lm.ret_of (Lc.if_f t3 (Lh.tup2 (f := rd 3) (s1 := s2) rfl rfl))
  · obtain ⟨v, s2, e2, g, o2, l3, l4⟩ := ix "change"
    obtain ⟨c, s3, e3, g3, o3, l5, l6⟩ := some_yes hk hu0 hu s2 (Int.le_trans h1 l3) (nb hn (nl (c := 3) l2 l4 (by decide)) (by decide))
    have t1 := Lx.eqS (f := rd 3) (h := cst (.str "add")) (env := envG k us cs (.val (.str "change")) .un) (st := s1) (s1 := s1) (s2 := s1) rfl rfl (c := false) (by decide +kernel)
    have t2 := Lx.eqS (f := rd 3) (h := cst (.str "allow")) (env := envG k us cs (.val (.str "change")) (.val v)) (st := s2) (s1 := s2) (s2 := s2) rfl rfl (c := false) (by decide +kernel)
    have t3 := Lx.eqS (f := rd 3) (h := cst (.str "change")) (env := envG k us cs (.val (.str "change")) (.val v)) (st := s2) (s1 := s2) (s2 := s2) rfl rfl (c := true) (by decide +kernel)
    refine fin (e := .change v c) (s2 := s3) ?_ ⟨g, g3⟩ (o3.trans o2) (Int.le_trans l3 l5) (nl l4 l6 (by decide))
    rw [go, Lm.seq_nx (Lm.ifs_f t1 v_nxM), Lm.seq_nx e2, Lm.seq_nx (Lm.ifs_f t2 v_nxM)]
    refine Lm.ret_of (Lc.if_t t3 ?_)
    rw [v_tupM, Lm.cons_of (f := rd 3) (s1 := s2) rfl (Lm.cons_of (f := rd 4) (s1 := s2) rfl (Lm.cons_of (Lm.call_of (Lm.cons_of (f := rd 0) (s1 := s2) rfl (Lm.cons_of (f := rd 1) (s1 := s2) rfl v_aNil)) e3) v_aNil)), Option.bind_some]
    exact grd_of (show 3 ≤ 1000000 by decide)
  · obtain ⟨v, s2, e2, g, o2, l3, l4⟩ := ix "lift"
    have t1 := Lx.eqS (f := rd 3) (h := cst (.str "add")) (env := envG k us cs (.val (.str "lift")) .un) (st := s1) (s1 := s1) (s2 := s1) rfl rfl (c := false) (by decide +kernel)
    have t2 := Lx.eqS (f := rd 3) (h := cst (.str "allow")) (env := envG k us cs (.val (.str "lift")) (.val v)) (st := s2) (s1 := s2) (s2 := s2) rfl rfl (c := false) (by decide +kernel)
    have t3 := Lx.eqS (f := rd 3) (h := cst (.str "change")) (env := envG k us cs (.val (.str "lift")) (.val v)) (st := s2) (s1 := s2) (s2 := s2) rfl rfl (c := false) (by decide +kernel)
    refine fin (e := .lift v) (s2 := s2) ?_ g o2 l3 (nu l4 (by decide))
    rw [go, Lm.seq_nx (Lm.ifs_f t1 v_nxM), Lm.seq_nx e2, Lm.seq_nx (Lm.ifs_f t2 v_nxM)]
    exact Lm.ret_of (Lc.if_f t3 (Lh.tup2 (f := rd 3) (s1 := s2) rfl rfl))
  · obtain ⟨v, s2, e2, g, o2, l3, l4⟩ := ix "allow"
    obtain ⟨xs, x1, x2, x3⟩ := al_lst (a := alA) (env := envG k us cs (.val (.str "allow")) (.val v)) (ac g_i (ac g_i (ac g_i (ac g_i (ac g_i (ac g_i (ac g_i (ac g_i (ac g_i (ac vx_neg (ac g_i (ac (g_bl _) (ac g_non (ac g_1 (ac t0 (ac vx_pow al_nil)))))))))))))))) (by decide)
    obtain ⟨m, s3, e3, hm, o3, l5, l6⟩ := one_in (ds := xs) (env := envG k us cs (.val (.str "allow")) (.val v)) (fun s => rfl) (Gds.ne x2) (by rw [x2]; decide) x1 s2 (Int.le_trans h1 l3) (nb hn (nl (c := 3) l2 l4 (by decide)) (by decide))
    have t1 := Lx.eqS (f := rd 3) (h := cst (.str "add")) (env := envG k us cs (.val (.str "allow")) .un) (st := s1) (s1 := s1) (s2 := s1) rfl rfl (c := false) (by decide +kernel)
    have t2 := Lx.eqS (f := rd 3) (h := cst (.str "allow")) (env := envG k us cs (.val (.str "allow")) (.val v)) (st := s2) (s1 := s2) (s2 := s2) rfl rfl (c := true) (by decide +kernel)
    refine fin (e := .allow v m) (s2 := s3) ?_ ⟨g, (x3.mem hm).mono (Nat.le_refl _) (by decide)⟩ (o3.trans o2) (Int.le_trans l3 l5) (nl l4 l6 (by decide))
    rw [go, Lm.seq_nx (Lm.ifs_f t1 v_nxM), Lm.seq_nx e2]
    refine Lm.seq_rt (Lm.ifs_t t2 (Lm.ret_of ?_))
    rw [v_tupM, Lm.cons_of (f := rd 3) (s1 := s2) rfl (Lm.cons_of (f := rd 4) (s1 := s2) rfl (Lm.cons_of e3 v_aNil)), Option.bind_some]
    exact grd_of (show 3 ≤ 1000000 by decide)
end Lw
set_option Elab.async false
set_option linter.all false
set_option maxRecDepth 100000
set_option maxHeartbeats 2000000
namespace Lw
open PySem MD L2 Lc
variable {ww : WW}
noncomputable abbrev fB : List Str := ["kind", "units", "cuts", "begun", "standing", "undone", "is_watched"]
structure Bn where
  K : D
  U : D
  cs : List D
  c0 : List D
  sd : List (D × List D)
  ud : List (D × List D)
  w : Bool
noncomputable abbrev enD (x : D × List D) : D := .tup [x.1, .tup x.2]
noncomputable abbrev Bn.xs (b : Bn) : List D := [b.K, b.U, .tup b.cs, .tup b.c0, .lst (b.sd.map enD), .lst (b.ud.map enD), .bl b.w]
noncomputable def bO (b : Bn) : Ob := .ins "Bench" fB b.xs
structure BnOk (b : Bn) (k : Nat) (us : List D) : Prop where
  k4 : k ≤ 4
  u2 : us.length ≤ 2
  K : ∃ r e, b.K = .tup [nD k, r, e]
  U : b.U = .tup us
  cz : Cz k us.length b.cs
  w : b.w = false
  sn : ∀ x ∈ b.sd, Nice (enD x)
section
variable {st s1 : S} {n : Nat} {b b' : Bn} {env : Sg} {fo fv : ME} {f : Str} {d : D}
theorem bfld (h : fo env st = some (.ref n, st)) (hn : st.ob[n]? = some (bO b)) (hl : lookF fB b.xs f = some d) : fldM ["Bench"] f fo env st = some (d, st) := Lm.fld_of h hn hl
theorem bset (hv : fv env st = some (d, st)) (h : fo env st = some (.ref n, st)) (hn : st.ob[n]? = some (bO b)) (he : Ob.ins "Bench" (putFN fB f) (putFV fB b.xs f d) = bO b') : setM ["Bench"] f fo fv env st = some (.nx env, st.put n (bO b')) := by
  rw [Lm.set_of hv h hn (by decide), he]
theorem put_put (st : S) (n : Nat) (x y : Ob) : (st.put n x).put n y = st.put n y := by
  unfold S.put
  simp only [List.set_set]
theorem put_at {x y : Ob} (h : st.ob[n]? = some x) : (st.put n y).ob[n]? = some y := by
  obtain ⟨hlt, _⟩ := List.getElem?_eq_some_iff.mp h
  show (st.ob.set n y)[n]? = _
  rw [List.getElem?_set_self hlt]
theorem run_nx {m : Nat} {B : MS} {ds : List D} {e : Sg} (h : B (ds.map Sl.val ++ List.replicate (m - ds.length) Sl.un) st = some (.nx e, s1)) : runM m B ds st = some (.non, s1) := by rw [v_runM, h]; rfl
theorem drop_of (h : fv env st = some (d, s1)) : dropM fv env st = some (.nx env, s1) := by
  unfold dropM
  rw [h]; rfl
theorem fld_tru (h : fo env st = some (.ref n, st)) (hn : st.ob[n]? = some (bO b)) (hw : b.w = false) : truM (fldM ["Bench"] "is_watched" fo) env st = some (false, st) := by
  have := Lh.tru_of (bfld (f := "is_watched") (d := .bl b.w) h hn rfl)
  rw [hw] at this
  exact this
theorem idle_ok (hn : st.ob[n]? = some (bO b)) (hw : b.w = false) : m_Bench_idle [.ref n] st = some (.non, st) := by
  have hb : b_Bench_idle = (ifS (truM (fldM ["Bench"] "is_watched" (rd 0))) stkM nxM) := rfl
  refine run_nx (e := [.val (.ref n)]) ?_
  show b_Bench_idle [.val (.ref n)] st = _
  rw [hb]
  exact Lm.ifs_f (fld_tru rfl hn hw) v_nxM
theorem lenLs {g : ME} {ds : List D} (h : g env st = some (.lst ds, s1)) : cbM lenA (aCons g aNil) env st = some (.int ((ds.length : Nat) : Int), s1) := by
  rw [v_cbM, Lm.cons_of h v_aNil, Option.bind_some]; rfl
theorem blen (h : fo env st = some (.ref n, st)) (hn : st.ob[n]? = some (bO b)) : cbM lenA (aCons (fldM ["Bench"] "standing" fo) aNil) env st = some (nD b.sd.length, st) := by
  have := lenLs (bfld (f := "standing") (d := .lst (b.sd.map enD)) h hn rfl)
  rw [List.length_map] at this
  exact this
theorem ready_ok (hn : st.ob[n]? = some (bO b)) (hw : b.w = false) (hs : b.sd.length < 60) : m_Bench_ready [.ref n] st = some (.non, st) := by
  have hb : b_Bench_ready = (seqM (dropM (methM "Bench" "idle" m_Bench_idle (rd 0) aNil))
 (ifS (tstM (opM geM (cbM lenA (aCons (fldM ["Bench"] "standing" (rd 0)) aNil)) (cst (.int 60))))
 stkM
 nxM)) := rfl
  refine run_nx (e := [.val (.ref n)]) ?_
  show b_Bench_ready [.val (.ref n)] st = _
  rw [hb, Lm.seq_nx (drop_of (Lm.meth_of (fo := rd 0) (s1 := st) rfl hn (by decide +kernel) v_aNil (idle_ok hn hw)))]
  have t := Lh.ge_of (h := cst (.int 60)) (j := 60) (s2 := st) (blen (fo := rd 0) (env := [.val (.ref n)]) rfl hn) rfl
  rw [decide_eq_false (by omega)] at t
  exact Lm.ifs_f t v_nxM
theorem judge_ok (d : D) : m_Bench_judge [.ref n, d] st = some (.non, st) := rfl
theorem lenM_ok (hn : st.ob[n]? = some (bO b)) : m_Bench___len__ [.ref n] st = some (nD b.sd.length, st) := by
  have hb : b_Bench___len__ = (retM (cbM lenA (aCons (fldM ["Bench"] "standing" (rd 0)) aNil))) := rfl
  refine Lm.run_of ?_
  show b_Bench___len__ [.val (.ref n)] st = _
  rw [hb]
  exact Lm.ret_of (blen rfl hn)
theorem atI_end {α : Type} (xs : List α) (x : α) : L2.atI (xs ++ [x]) (-1) = some x := by
  unfold L2.atI ixN
  have h1 : ¬ (0 : Int) ≤ -1 := by decide
  have h2 : -(((xs ++ [x]).length : Nat) : Int) ≤ -1 := by rw [List.length_append]; simp; omega
  rw [if_neg h1, if_pos h2]
  have h3 : (-1 + (((xs ++ [x]).length : Nat) : Int)).toNat = xs.length := by rw [List.length_append]; simp; omega
  rw [h3]
  simp
/-- the last one's part -/
theorem end_of {g : ME} {ds : List D} (h : g env st = some (.lst (ds ++ [d]), st)) : opM subD g (unM (unI fun i => .int (-i)) (cst (.int 1))) env st = some (d, st) :=
  Lh.sub_of (x := .lst (ds ++ [d])) (y := .int (-1)) h rfl (fun s => dr_lst s _) (fun s => rfl) (by rw [v_subL, v_ixL, atI_end])
/-- the cuts behind these edits -/
noncomputable def csOf (c0 : List D) (sd : List (D × List D)) : List D := match sd.getLast? with
  | some x => x.2
  | none => c0
theorem stand_ok (hn : st.ob[n]? = some (bO b)) {sd : List (D × List D)} (hs : ∀ x ∈ sd, Nice (enD x)) : m_Bench_stand [.ref n, .lst (sd.map enD)] st = some (nD sd.length, st.put n (bO { b with sd := sd, cs := csOf b.c0 sd })) := by
  have hb : b_Bench_stand = (seqM (setM ["Bench"] "standing" (rd 0) (rd 1))
 (seqM (setM ["Bench"] "cuts" (rd 0) (ifM (tstM (opM neM (rd 1) (frz (lstM aNil)))) (opM subD (opM subD (rd 1) (unM (unI fun i => .int (-i)) (cst (.int 1)))) (cst (.int 1))) (fldM ["Bench"] "begun" (rd 0))))
 (retM (cbM lenA (aCons (rd 1) aNil))))) := rfl
  refine Lm.run_of ?_
  show b_Bench_stand [.val (.ref n), .val (.lst (sd.map enD))] st = _
  have e1 : setM ["Bench"] "standing" (rd 0) (rd 1) [.val (.ref n), .val (.lst (sd.map enD))] st = some (.nx [.val (.ref n), .val (.lst (sd.map enD))], st.put n (bO { b with sd := sd })) := bset (d := .lst (sd.map enD)) rfl rfl hn rfl
  rw [hb, Lm.seq_nx e1]
  have hn1 := put_at (y := bO { b with sd := sd }) hn
  have hnice : ∀ d ∈ sd.map enD, Nice d := fun d hd => by
    obtain ⟨x, hx, rfl⟩ := List.mem_map.mp hd
    exact hs x hx
  have t := Lm.tst_of (nenil_of (f := rd 1) (env := [.val (.ref n), .val (.lst (sd.map enD))]) (st := st.put n (bO { b with sd := sd })) (s1 := st.put n (bO { b with sd := sd })) rfl hnice)
  have e2 : ifM (tstM (opM neM (rd 1) (frz (lstM aNil)))) (opM subD (opM subD (rd 1) (unM (unI fun i => .int (-i)) (cst (.int 1)))) (cst (.int 1))) (fldM ["Bench"] "begun" (rd 0)) [.val (.ref n), .val (.lst (sd.map enD))] (st.put n (bO { b with sd := sd })) = some (.tup (csOf b.c0 sd), st.put n (bO { b with sd := sd })) := by
    rcases List.eq_nil_or_concat sd with rfl | ⟨sd', x, rfl⟩
    · exact Lc.if_f t (bfld (b := { b with sd := [] }) (f := "begun") rfl hn1 rfl)
    · rw [show (!((sd'.concat x).map enD).isEmpty) = true from by rw [List.concat_eq_append, List.map_append]; simp] at t
      refine Lc.if_t t ?_
      have hc : csOf b.c0 (sd'.concat x) = x.2 := by
        unfold csOf
        rw [List.concat_eq_append, List.getLast?_append]
        rfl
      rw [hc]
      have e3 : opM subD (rd 1) (unM (unI fun i => .int (-i)) (cst (.int 1))) [.val (.ref n), .val (.lst ((sd'.concat x).map enD))] (st.put n (bO { b with sd := sd'.concat x })) = some (enD x, st.put n (bO { b with sd := sd'.concat x })) := end_of (ds := sd'.map enD) (by rw [List.concat_eq_append, List.map_append]; rfl)
      exact Lh.at_tup (j := 1) e3 rfl
  have e4 := bset (f := "cuts") (b := { b with sd := sd }) (b' := { b with sd := sd, cs := csOf b.c0 sd }) (fo := rd 0) e2 rfl hn1 rfl
  rw [put_put] at e4
  rw [Lm.seq_nx e4]
  have hl := lenLs (g := rd 1) (env := [.val (.ref n), .val (.lst (sd.map enD))]) (st := st.put n (bO { b with sd := sd, cs := csOf b.c0 sd })) (s1 := st.put n (bO { b with sd := sd, cs := csOf b.c0 sd })) (ds := sd.map enD) rfl
  rw [List.length_map] at hl
  exact Lm.ret_of hl
noncomputable def Bn.done (b : Bn) (e : D) (ds : List D) : Bn := { b with cs := ds, sd := b.sd ++ [(e, ds)], ud := [] }
theorem settle_ok (hn : st.ob[n]? = some (bO b)) (hs : ∀ x ∈ b.sd, Nice (enD x)) (hl : b.sd.length < 60) {e : D} {ds : List D} (he : Nice (enD (e, ds))) : m_Bench_settle [.ref n, e, .tup ds] st = some (nD (b.sd.length + 1), st.put n (bO (b.done e ds))) := by
  have hb : b_Bench_settle = (seqM (dropM (methM "Bench" "judge" m_Bench_judge (rd 0) (aCons (rd 2) aNil)))
 (seqM (setM ["Bench"] "undone" (rd 0) (frz (lstM aNil)))
 (retM (methM "Bench" "stand" m_Bench_stand (rd 0) (aCons (opM addM (fldM ["Bench"] "standing" (rd 0)) (frz (lstM (aCons (tupM (aCons (rd 1) (aCons (rd 2) aNil))) aNil)))) aNil))))) := rfl
  refine Lm.run_of ?_
  show b_Bench_settle [.val (.ref n), .val e, .val (.tup ds)] st = _
  have e1 : dropM (methM "Bench" "judge" m_Bench_judge (rd 0) (aCons (rd 2) aNil)) [.val (.ref n), .val e, .val (.tup ds)] st = some (.nx [.val (.ref n), .val e, .val (.tup ds)], st) := drop_of (Lm.meth_of (fo := rd 0) (s1 := st) rfl hn (by decide +kernel) (Lm.cons_of (f := rd 2) (s1 := st) rfl v_aNil) (judge_ok _))
  have e2 : setM ["Bench"] "undone" (rd 0) (frz (lstM aNil)) [.val (.ref n), .val e, .val (.tup ds)] st = some (.nx [.val (.ref n), .val e, .val (.tup ds)], st.put n (bO { b with ud := [] })) := bset (d := .lst []) (Lm.lst_of v_aNil (by simp)) rfl hn rfl
  have hn2 := put_at (y := bO { b with ud := [] }) hn
  rw [hb, Lm.seq_nx e1, Lm.seq_nx e2]
  have e3 : opM addM (fldM ["Bench"] "standing" (rd 0)) (frz (lstM (aCons (tupM (aCons (rd 1) (aCons (rd 2) aNil))) aNil))) [.val (.ref n), .val e, .val (.tup ds)] (st.put n (bO { b with ud := [] })) = some (.lst ((b.sd ++ [(e, ds)]).map enD), st.put n (bO { b with ud := [] })) := by
    rw [List.map_append]
    exact Lm.add_lst (bfld (b := { b with ud := [] }) (f := "standing") rfl hn2 rfl) (Lm.lst_of (Lm.cons_of (Lh.tup2 (f := rd 1) (h := rd 2) (s1 := st.put n (bO { b with ud := [] })) rfl rfl) v_aNil) (by simp)) (by simp; omega)
  have hs2 : ∀ x ∈ b.sd ++ [(e, ds)], Nice (enD x) := fun x hx => by
    rcases List.mem_append.mp hx with z | z
    · exact hs x z
    · rw [List.mem_singleton.mp z]; exact he
  have e4 := stand_ok (b := { b with ud := [] }) hn2 hs2
  have hcs : csOf b.c0 (b.sd ++ [(e, ds)]) = ds := by
    unfold csOf
    rw [List.getLast?_append]
    rfl
  rw [put_put] at e4
  dsimp only at e4
  rw [hcs, List.length_append] at e4
  exact Lm.ret_of (Lm.meth_of (fo := rd 0) (s1 := st.put n (bO { b with ud := [] })) rfl hn2 (by decide +kernel) (Lm.cons_of e3 v_aNil) e4)
end
end Lw
set_option Elab.async false
set_option linter.all false
set_option maxRecDepth 100000
set_option maxHeartbeats 2000000
namespace Lw
open PySem MD L2 Lc
variable {ww : WW}
theorem isC_nd {k U : Nat} (hk : k ≤ 4) {v : D} (h : isC k U v = true) : Lh.Nd 1 v := by
  obtain ⟨u, m, ws, rfl, _, _, hw⟩ := isC_form h
  exact Lh.Nd.tup3 (Lh.Nd.int _) (Lh.Nd.int _) (Lh.Nd.strW (clB_small hk hw).2)
theorem Cz.nd {k U : Nat} (hk : k ≤ 4) {cs : List D} (h : Cz k U cs) : Lh.Nd 2 (.tup cs) := Lh.Nd.tup fun d hd => isC_nd hk (h.ok d hd)
theorem nd_s {x : Str} (h : x.cps.toList.all (fun c => decide (c < 128)) = true) : Lh.Nd 0 (.str x) := by
  rw [← W_of' x]
  refine Lh.Nd.strW fun c hc => ?_
  exact of_decide_eq_true (List.all_eq_true.mp h c hc)
theorem due_in {k U : Nat} {cs ds : List D} {e : Ed} (h : due k U cs e = .ok ds) : after cs e = .to ds ∧ Cz k U ds := by
  refine ⟨?_, due_cz h⟩
  unfold due at h
  cases ha : after cs e with
  | no v => rw [ha] at h; cases h
  | to xs =>
    rw [ha] at h
    dsimp only at h
    by_cases hn : nonD (cerr k U (.tup xs)) = true
    · rw [if_pos hn] at h; cases h; rfl
    · rw [if_neg hn] at h; cases h
theorem at_in {cs ds : List D} {v : D} {f : Nat → List D} (h : at' cs v f = .to ds) : ∃ i, i < cs.length ∧ v = nD i ∧ ds = f i := by
  unfold at' at h
  cases hw : whole v cs.length with
  | none => rw [hw] at h; cases h
  | some i =>
    rw [hw] at h
    cases h
    exact ⟨i, (whole_lt hw).1, (whole_lt hw).2, rfl⟩
/-- an edit that stands has good values -/
theorem ed_nd {k U : Nat} (hk : k ≤ 4) {cs ds : List D} (hc : Cz k U cs) {e : Ed} (h : due k U cs e = .ok ds) : Lh.Nd 2 e.d := by
  obtain ⟨ha, hz⟩ := due_in h
  cases e with
  | add v =>
    cases ha
    exact Lh.Nd.tup2 ((nd_s (by decide +kernel)).le (by decide)) (isC_nd hk (hz.ok v (by simp)))
  | drop v =>
    obtain ⟨i, _, rfl, _⟩ := at_in ha
    exact Lh.Nd.tup2 ((nd_s (by decide +kernel)).le (by decide)) ((Lh.Nd.int _).le (by decide))
  | lift v =>
    obtain ⟨i, _, rfl, _⟩ := at_in ha
    exact Lh.Nd.tup2 ((nd_s (by decide +kernel)).le (by decide)) ((Lh.Nd.int _).le (by decide))
  | change v c =>
    obtain ⟨i, _, rfl, rfl⟩ := at_in ha
    exact Lh.Nd.tup3 ((nd_s (by decide +kernel)).le (by decide)) ((Lh.Nd.int _).le (by decide)) (isC_nd hk (hz.ok c (by unfold put; simp)))
  | allow v m =>
    obtain ⟨i, hi, rfl, rfl⟩ := at_in ha
    obtain ⟨a, b, c, _, hg, _⟩ := cz_at hc hi
    have := hz.ok (.tup [a, m, c]) (by rw [hg]; unfold put allowed; simp)
    obtain ⟨u, q, ws, e1, _⟩ := isC_form this
    cases e1
    exact Lh.Nd.tup3 ((nd_s (by decide +kernel)).le (by decide)) ((Lh.Nd.int _).le (by decide)) ((Lh.Nd.int _).le (by decide))
theorem en_nice {k U : Nat} (hk : k ≤ 4) {cs ds : List D} (hc : Cz k U cs) {e : Ed} (h : due k U cs e = .ok ds) : Nice (enD (e.d, ds)) := (Lh.Nd.tup2 (ed_nd hk hc h) ((due_cz h).nd hk)).nice (by decide)
theorem setXs {c f : Str} {st : S} {fo fv : ME} {env : Sg} {fs : List Str} {xs : List D} {d : D} (hv : fv env (Xs st [.ins c fs xs]) = some (d, Xs st [.ins c fs xs])) (h : fo env (Xs st [.ins c fs xs]) = some (.ref (st.ob.length + 0), Xs st [.ins c fs xs])) (hl : fs.length < 1000) :
    setM [c] f fo fv env (Xs st [.ins c fs xs]) = some (.nx env, Xs st [.ins c (putFN fs f) (putFV fs xs f d)]) := by
  rw [Lm.set_of hv h (by rw [Xs_at]; rfl) hl, Xs_put]; rfl
theorem need_none {K U C : D} {st : S} (h : m_scheme_error [.tup [K, U, C]] st = some (.non, st)) : m_need_scheme [.tup [K, U, C]] st = some (.non, st) := by
  have hb : b_need_scheme = (seqM (asgM (nameT 1) (callM m_scheme_error (aCons (rd 0) aNil)))
 (ifS (tstM (opM isNotM (rd 1) (cst .non)))
 stkM
 nxM)) := rfl
  refine run_nx (e := [.val (.tup [K, U, C]), .val .non]) ?_
  show b_need_scheme [.val (.tup [K, U, C]), .un] st = _
  rw [hb, Lm.seq_nx (e := [.val (.tup [K, U, C]), .val .non]) (Lm.asg_nx (Lm.call_of (Lm.cons_of (f := rd 0) (s1 := st) rfl v_aNil) h))]
  exact Lm.ifs_f (Lc.isnot_of (f := rd 1) (s1 := st) (d := .non) rfl rfl) v_nxM
theorem init_ok {K U : D} {cs : List D} {st : S} (h : ∀ s : S, m_scheme_error [.tup [K, U, .tup cs]] s = some (.non, s)) : m_Bench___init__ [.ref st.ob.length, K, U, .tup cs] (st.ad (.ins "Bench" [] [])) = some (.non, Xs st [bO ⟨K, U, cs, cs, [], [], false⟩]) := by
  have hb : b_Bench___init__ = (seqM (dropM (callM m_need_scheme (aCons (tupM (aCons (rd 1) (aCons (rd 2) (aCons (rd 3) aNil)))) aNil)))
 (seqM (setM ["Bench"] "kind" (rd 0) (rd 1))
 (seqM (setM ["Bench"] "units" (rd 0) (rd 2))
 (seqM (setM ["Bench"] "cuts" (rd 0) (rd 3))
 (seqM (setM ["Bench"] "begun" (rd 0) (rd 3))
 (seqM (setM ["Bench"] "standing" (rd 0) (frz (lstM aNil)))
 (seqM (setM ["Bench"] "undone" (rd 0) (frz (lstM aNil)))
 (setM ["Bench"] "is_watched" (rd 0) (cst (.bl false)))))))))) := rfl
  have e0 : st.ad (.ins "Bench" [] []) = Xs st [.ins "Bench" [] []] := by
    rw [← Xs_nil st, Xs_ad, Xs_nil]; rfl
  let E0 : Sg := [.val (.ref st.ob.length), .val K, .val U, .val (.tup cs)]
  have e1 : dropM (callM m_need_scheme (aCons (tupM (aCons (rd 1) (aCons (rd 2) (aCons (rd 3) aNil)))) aNil)) E0 (Xs st [.ins "Bench" [] []]) = some (.nx E0, Xs st [.ins "Bench" [] []]) :=
    drop_of (Lm.call_of (Lm.cons_of (Lx.tup3 rfl rfl rfl) v_aNil) (need_none (h _)))
  have nil : ∀ s : S, frz (lstM aNil) E0 s = some (.lst [], s) := fun s => Lm.lst_of v_aNil (by simp)
  refine run_nx (e := E0) ?_
  rw [e0]
  show b_Bench___init__ E0 (Xs st [.ins "Bench" [] []]) = _
  rw [hb, Lm.seq_nx e1, Lm.seq_nx (setXs (d := K) rfl rfl (by decide)), Lm.seq_nx (setXs (d := U) rfl rfl (by decide)), Lm.seq_nx (setXs (d := .tup cs) rfl rfl (by decide)), Lm.seq_nx (setXs (d := .tup cs) rfl rfl (by decide)), Lm.seq_nx (setXs (nil _) rfl (by decide)), Lm.seq_nx (setXs (nil _) rfl (by decide)), setXs (d := .bl false) rfl rfl (by decide)]
  rfl
noncomputable def rxB (b : Bn) : Rs → Rx
  | .ok _ => .ok (nD (b.sd.length + 1))
  | .no v => .xc "NoCut" "index" v
  | .bad x => .xc "BadCuts" "error" x
noncomputable def rsB (b : Bn) : Rs → D
  | .ok _ => .lst [.str "ok", nD (b.sd.length + 1)]
  | .no v => .lst [.str "NoCut", v]
  | .bad x => .lst [.str "BadCuts", x]
noncomputable def stB (st : S) (n : Nat) (b : Bn) (e : D) : Rs → S
  | .ok ds => st.put n (bO (b.done e ds))
  | _ => st
section
variable {st : S} {n : Nat} {b : Bn} {k : Nat} {us : List D} (hn : st.ob[n]? = some (bO b)) (ok : BnOk b k us) (hl : b.sd.length < 60)
include hn ok hl
theorem do_ok {e : Ed} (he : e.ql) : m_Bench_do [.ref n, e.d] st = some (rxB b (due k us.length b.cs e), stB st n b e.d (due k us.length b.cs e)) := by
  have hb : b_Bench_do = (seqX (liX (dropM (methM "Bench" "ready" m_Bench_ready (rd 0) aNil)))
 (retX (metDX "Bench" "settle" m_Bench_settle (rd 0) (consX (puX (rd 1)) (consX (callX m_edited (puA (aCons (opM subD (fldM ["Bench"] "kind" (rd 0)) (cst (.int 0))) (aCons (fldM ["Bench"] "units" (rd 0)) (aCons (fldM ["Bench"] "cuts" (rd 0)) (aCons (rd 1) aNil)))))) (puA aNil)))))) := rfl
  refine Lx.run_of ?_
  show b_Bench_do [.val (.ref n), .val e.d] st = _
  rw [hb, Lx.seq_nx (e := [.val (.ref n), .val e.d]) (Lx.li_of (drop_of (Lm.meth_of (fo := rd 0) (s1 := st) rfl hn (by decide +kernel) v_aNil (ready_ok hn ok.w hl))))]
  obtain ⟨r, en, hK⟩ := ok.K
  have f1 : fldM ["Bench"] "kind" (rd 0) [.val (.ref n), .val e.d] st = some (.tup [nD k, r, en], st) := by
    have := bfld (f := "kind") (fo := rd 0) (env := [.val (.ref n), .val e.d]) (d := b.K) rfl hn rfl
    rw [hK] at this
    exact this
  have f0 : opM subD (fldM ["Bench"] "kind" (rd 0)) (cst (.int 0)) [.val (.ref n), .val e.d] st = some (nD k, st) := Lh.at_tup (j := 0) f1 rfl
  have f2 : fldM ["Bench"] "units" (rd 0) [.val (.ref n), .val e.d] st = some (.tup us, st) := by
    have := bfld (f := "units") (fo := rd 0) (env := [.val (.ref n), .val e.d]) (d := b.U) rfl hn rfl
    rw [ok.U] at this
    exact this
  have f3 : fldM ["Bench"] "cuts" (rd 0) [.val (.ref n), .val e.d] st = some (.tup b.cs, st) := bfld (f := "cuts") (fo := rd 0) rfl hn rfl
  have c1 := Lx.call_of (mf := m_edited) (Lx.puA_of (Lm.cons_of f0 (Lm.cons_of f2 (Lm.cons_of f3 (Lm.cons_of (f := rd 1) (s1 := st) rfl v_aNil))))) (edq ok.k4 us ok.cz st he)
  cases hd : due k us.length b.cs e with
  | ok ds =>
    rw [hd] at c1
    exact Lx.ret_of (Lx.metD_of (fo := rd 0) (s1 := st) rfl hn (by decide +kernel) (Lx.cons_of (Lx.pu_of (f := rd 1) (s1 := st) rfl) (Lx.cons_of c1 (Lx.puA_of v_aNil))) (settle_ok hn ok.sn hl (en_nice ok.k4 ok.cz hd)))
  | no v =>
    rw [hd] at c1
    exact Lx.ret_of (y := .xc "NoCut" "index" v) (Lx.metD_xc (fo := rd 0) (s1 := st) rfl hn (by decide +kernel) (Lx.cons_xc2 (Lx.pu_of (f := rd 1) (s1 := st) rfl) (Lx.cons_xc c1)))
  | bad x =>
    rw [hd] at c1
    exact Lx.ret_of (y := .xc "BadCuts" "error" x) (Lx.metD_xc (fo := rd 0) (s1 := st) rfl hn (by decide +kernel) (Lx.cons_xc2 (Lx.pu_of (f := rd 1) (s1 := st) rfl) (Lx.cons_xc c1)))
theorem add_ok {v : D} (he : v.ql = true) : m_Bench_add [.ref n, v] st = some (rxB b (due k us.length b.cs (.add v)), stB st n b (Ed.add v).d (due k us.length b.cs (.add v))) := by
  have hb : b_Bench_add = (retX (metX "Bench" "do" m_Bench_do (rd 0) (puA (aCons (tupM (aCons (cst (.str "add")) (aCons (rd 1) aNil))) aNil)))) := rfl
  refine Lx.run_of ?_
  show b_Bench_add [.val (.ref n), .val v] st = _
  rw [hb]
  exact Lx.ret_of (Lx.met_of (fo := rd 0) (s1 := st) rfl hn (by decide +kernel) (Lx.puA_of (Lm.cons_of (Lh.tup2 (f := cst (.str "add")) (s1 := st) rfl rfl) v_aNil)) (do_ok hn ok hl (e := .add v) he))
theorem drop_ok {v : D} (he : v.ql = true) : m_Bench_drop [.ref n, v] st = some (rxB b (due k us.length b.cs (.drop v)), stB st n b (Ed.drop v).d (due k us.length b.cs (.drop v))) := by
  have hb : b_Bench_drop = (retX (metX "Bench" "do" m_Bench_do (rd 0) (puA (aCons (tupM (aCons (cst (.str "drop")) (aCons (rd 1) aNil))) aNil)))) := rfl
  refine Lx.run_of ?_
  show b_Bench_drop [.val (.ref n), .val v] st = _
  rw [hb]
  exact Lx.ret_of (Lx.met_of (fo := rd 0) (s1 := st) rfl hn (by decide +kernel) (Lx.puA_of (Lm.cons_of (Lh.tup2 (f := cst (.str "drop")) (s1 := st) rfl rfl) v_aNil)) (do_ok hn ok hl (e := .drop v) he))
theorem change_ok {v c : D} (he : v.ql = true ∧ c.ql = true) : m_Bench_change [.ref n, v, c] st = some (rxB b (due k us.length b.cs (.change v c)), stB st n b (Ed.change v c).d (due k us.length b.cs (.change v c))) := by
  have hb : b_Bench_change = (retX (metX "Bench" "do" m_Bench_do (rd 0) (puA (aCons (tupM (aCons (cst (.str "change")) (aCons (rd 1) (aCons (rd 2) aNil)))) aNil)))) := rfl
  refine Lx.run_of ?_
  show b_Bench_change [.val (.ref n), .val v, .val c] st = _
  rw [hb]
  exact Lx.ret_of (Lx.met_of (fo := rd 0) (s1 := st) rfl hn (by decide +kernel) (Lx.puA_of (Lm.cons_of (Lx.tup3 (x := cst (.str "change")) rfl rfl rfl) v_aNil)) (do_ok hn ok hl (e := .change v c) he))
end
end Lw
set_option Elab.async false
set_option linter.all false
set_option maxRecDepth 100000
set_option maxHeartbeats 2000000
namespace Lw
open PySem MD L2 Lc
end Lw
set_option Elab.async false
set_option linter.all false
set_option maxRecDepth 100000
set_option maxHeartbeats 2000000
namespace Lw
open PySem MD L2 Lc
variable {ww : WW}
theorem reprOf {f : ME} {env : Sg} {st s1 : S} {d : D} {n b : Nat} (h : f env st = some (d, s1)) (g : Gd d n b) (hn : n ≤ 60) (hb : b ≤ 15000) : cbM reprQ (aCons f aNil) env st = some (.str d.qy.shown, s1) := by
  rw [v_cbM, Lm.cons_of h v_aNil, Option.bind_some]
  show ((reprQ [dr s1 d]).map _ : Option (D × S)) = _
  rw [dr_ql g.g.ql, reprQ_gd g hn hb]; rfl
theorem repr_ne {f h : ME} {env : Sg} {st s1 s2 : S} {d : D} {n b : Nat} (h1 : f env st = some (d, s1)) (h2 : h env s1 = some (d, s2)) (g : Gd d n b) (hn : n ≤ 60) (hb : b ≤ 15000) : tstM (opM neM (cbM reprQ (aCons f aNil)) (cbM reprQ (aCons h aNil))) env st = some (false, s2) :=
  Lx.neS (reprOf h1 g hn hb) (reprOf h2 g hn hb) (c := true) (decide_eq_true rfl)
theorem cerr_gd {k U : Nat} {ds : List D} (hl : ds.length ≤ 1000) : Gd (cerr k U (.tup ds)) 1 30 := by
  unfold cerr
  dsimp only
  cases hb : badAt k U ds with
  | some i =>
    unfold badAt at hb
    obtain ⟨hi, _⟩ := List.findIdx?_eq_some_iff_getElem.mp hb
    exact (Gd.tup (Gds.cons (Gd.nat (by omega)) (Gds.cons (gd_s (by decide +kernel) (by decide +kernel)) (Gds.nil (b := 0))))).mono (by decide) (show 0 + 1 + (10 + 1 + 0) ≤ 30 by decide)
  | none =>
    dsimp only
    split
    · exact (Gd.tup (Gds.cons Gd.non (Gds.cons (gd_s (by decide +kernel) (by decide +kernel)) (Gds.nil (b := 0))))).mono (by decide) (show 0 + 1 + (10 + 1 + 0) ≤ 30 by decide)
    · exact Gd.non.mono (by decide) (by decide)
theorem after_len {cs ds : List D} {e : Ed} (h : after cs e = .to ds) : ds.length ≤ cs.length + 1 := by
  cases e with
  | add v => cases h; simp
  | drop v =>
    obtain ⟨i, hi, rfl, rfl⟩ := at_in h
    rw [List.length_append, List.length_take, List.length_drop]; omega
  | change v c =>
    obtain ⟨i, hi, rfl, rfl⟩ := at_in h
    unfold put
    rw [List.length_append, List.length_append, List.length_take, List.length_drop]; simp; omega
  | lift v =>
    obtain ⟨i, hi, rfl, rfl⟩ := at_in h
    unfold lifted
    split
    · omega
    · rw [List.length_append, List.length_append, List.length_take, List.length_drop]; simp; omega
  | allow v m =>
    obtain ⟨i, hi, rfl, rfl⟩ := at_in h
    unfold put
    rw [List.length_append, List.length_append, List.length_take, List.length_drop]; simp; omega
theorem at_no {cs : List D} {v w : D} {f : Nat → List D} (h : at' cs v f = .no w) : w = v := by
  unfold at' at h
  cases hw : whole v cs.length with
  | none => rw [hw] at h; cases h; rfl
  | some i => rw [hw] at h; cases h
theorem due_no {k U : Nat} {cs : List D} {e : Ed} {v : D} (he : e.gd) (h : due k U cs e = .no v) : Gd v 3 400 := by
  have ha : after cs e = .no v := by
    unfold due at h
    cases ha : after cs e with
    | no w => rw [ha] at h; cases h; rfl
    | to xs =>
      rw [ha] at h
      dsimp only at h
      by_cases hn : nonD (cerr k U (.tup xs)) = true
      · rw [if_pos hn] at h; cases h
      · rw [if_neg hn] at h; cases h
  cases e with
  | add w => cases ha
  | drop w => rw [at_no ha]; exact he
  | change w c => rw [at_no ha]; exact he.1
  | lift w => rw [at_no ha]; exact he
  | allow w m => rw [at_no ha]; exact he.1
theorem due_bad {k U : Nat} {cs : List D} {e : Ed} {x : D} (hl : cs.length ≤ 900) (h : due k U cs e = .bad x) : Gd x 1 30 := by
  unfold due at h
  cases ha : after cs e with
  | no w => rw [ha] at h; cases h
  | to xs =>
    rw [ha] at h
    dsimp only at h
    by_cases hn : nonD (cerr k U (.tup xs)) = true
    · rw [if_pos hn] at h; cases h
    · rw [if_neg hn] at h
      cases h
      exact cerr_gd (by have := after_len ha; omega)
theorem gd_l2 {x : Str} {d : D} {n b : Nat} (hx : x.cps.toList.all (fun c => decide (c < 16 ^ 8)) = true) (hx2 : x.cps.size ≤ 10) (h : Gd d n b) : Gd (.lst [.str x, d]) (n + 1) (12 + b) :=
  (Gd.lst (Gds.cons ((gd_s hx hx2).mono (Nat.zero_le n) (Nat.le_refl _)) (Gds.cons h (Gds.nil (b := 0))))).mono (Nat.le_refl _) (by omega)
theorem gd_rs {k U : Nat} {b : Bn} {e : Ed} (hl : b.cs.length ≤ 3) (hs : b.sd.length ≤ 1000) (he : e.gd) : Gd (rsB b (due k U b.cs e)) 4 420 := by
  cases hd : due k U b.cs e with
  | ok ds => exact (gd_l2 (by decide +kernel) (by decide +kernel) (Gd.nat (n := b.sd.length + 1) (by omega))).mono (by decide) (by decide)
  | no v => exact (gd_l2 (by decide +kernel) (by decide +kernel) (due_no he hd)).mono (by decide) (by decide)
  | bad x => exact (gd_l2 (by decide +kernel) (by decide +kernel) (due_bad (by omega) hd)).mono (by decide) (by decide)
theorem Sm.Ok.cz {s : Sm} (ok : s.Ok) : Cz s.k (s.units.map unD).length (s.cuts.map cuD) := by
  refine ⟨by rw [List.length_map]; exact ok.c3, fun c hc => ?_⟩
  obtain ⟨x, hx, rfl⟩ := List.mem_map.mp hc
  obtain ⟨h1, h2, h3⟩ := ok.cu x hx
  exact CuOk.c ⟨by rw [List.length_map]; exact h1, h2, h3⟩
end Lw
set_option Elab.async false
set_option linter.all false
set_option maxRecDepth 100000
set_option maxHeartbeats 1000000
namespace Lx
open PySem MD L2
section
variable {ww : WW} {env e : Sg} {st s1 s2 s3 : S} {d x y v : D} {ds : List D} {c g m : Str} {n : Nat} {fs : List Str} {xs : List D}
theorem raiN_of : raiN c env st = some (.xc c "" .non, st) := rfl
theorem lst_of {a : MAX} (h : a env st = some (.ok ds, s1)) (hz : ds.length ≤ 1000) : lstX a env st = some (.ok (.lst ds), s1) := by
  unfold lstX
  rw [h, Option.bind_some]
  dsimp only
  rw [if_pos (Nat.le_trans hz (by decide))]
theorem lst_xc {a : MAX} (h : a env st = some (.xc c g d, s1)) : lstX a env st = some (.xc c g d, s1) := by unfold lstX; rw [h]; rfl
theorem noX_of {f : MEX} (h : f env st = some (.ok d, s1)) : noX f env st = some (d, s1) := by unfold noX; rw [h]; rfl
theorem getO_of {mf : MFX} {fo fi : ME} {r : Option (Rx × S)} (h : fo env st = some (.ref n, s1)) (hi : fi env s1 = some (x, s2)) (hn : s2.ob[n]? = some (.ins c fs xs)) (hf : mf [.ref n, x] s2 = r) : getOX c mf fo fi env st = r := by
  unfold getOX
  rw [h, Option.bind_some]
  dsimp only
  rw [hi, Option.bind_some]
  have e1 : insAt [c] s2 n = some (c, fs, xs) := by unfold insAt; rw [hn]; simp
  show ((refOf (.ref n)).bind fun n => (insAt [c] s2 n).bind fun _ => mf [.ref n, x] s2) = r
  show ((insAt [c] s2 n).bind fun _ => mf [.ref n, x] s2) = r
  rw [e1]
  exact hf
theorem setO_of {mf : MFX} {fe fo fi : ME} (he : fe env st = some (v, s1)) (h : fo env s1 = some (.ref n, s1)) (hi : fi env s1 = some (x, s2)) (hn : s2.ob[n]? = some (.ins c fs xs)) (hf : mf [.ref n, x, v] s2 = some (.ok y, s3)) : setOX c mf fe fo fi env st = some (.fl (.nx env), s3) := by
  unfold setOX
  rw [he, Option.bind_some]
  dsimp only
  rw [h, Option.bind_some]
  dsimp only
  rw [hi, Option.bind_some]
  have e1 : insAt [c] s2 n = some (c, fs, xs) := by unfold insAt; rw [hn]; simp
  show ((insAt [c] s2 n).bind fun _ => (mf [.ref n, x, v] s2).bind _) = _
  rw [e1, Option.bind_some, hf]
  rfl
theorem setO_xc {mf : MFX} {fe fo fi : ME} {c2 : Str} (he : fe env st = some (v, s1)) (h : fo env s1 = some (.ref n, s1)) (hi : fi env s1 = some (x, s2)) (hn : s2.ob[n]? = some (.ins c fs xs)) (hf : mf [.ref n, x, v] s2 = some (.xc c2 g d, s3)) : setOX c mf fe fo fi env st = some (.xc c2 g d, s3) := by
  unfold setOX
  rw [he, Option.bind_some]
  dsimp only
  rw [h, Option.bind_some]
  dsimp only
  rw [hi, Option.bind_some]
  have e1 : insAt [c] s2 n = some (c, fs, xs) := by unfold insAt; rw [hn]; simp
  show ((insAt [c] s2 n).bind fun _ => (mf [.ref n, x, v] s2).bind _) = _
  rw [e1, Option.bind_some, hf]
  rfl
theorem iop_of {i : Nat} {mf : MFX} {fe : ME} (hi : env[i]? = some (.val (.ref n))) (he : fe env st = some (v, s1)) (hn : s1.ob[n]? = some (.ins c fs xs)) (hf : mf [.ref n, v] s1 = some (.ok y, s2)) : iopX i c mf fe env st = some (.fl (.nx (env.set i (.val y))), s2) := by
  unfold iopX
  rw [hi]
  dsimp only
  rw [he, Option.bind_some]
  have e1 : insAt [c] s1 n = some (c, fs, xs) := by unfold insAt; rw [hn]; simp
  show ((insAt [c] s1 n).bind fun _ => (mf [.ref n, v] s1).bind _) = _
  rw [e1, Option.bind_some, hf]
  rfl
theorem iop_xc {i : Nat} {mf : MFX} {fe : ME} {c2 : Str} (hi : env[i]? = some (.val (.ref n))) (he : fe env st = some (v, s1)) (hn : s1.ob[n]? = some (.ins c fs xs)) (hf : mf [.ref n, v] s1 = some (.xc c2 g d, s2)) : iopX i c mf fe env st = some (.xc c2 g d, s2) := by
  unfold iopX
  rw [hi]
  dsimp only
  rw [he, Option.bind_some]
  have e1 : insAt [c] s1 n = some (c, fs, xs) := by unfold insAt; rw [hn]; simp
  show ((insAt [c] s1 n).bind fun _ => (mf [.ref n, v] s1).bind _) = _
  rw [e1, Option.bind_some, hf]
  rfl
theorem try_fl {f : MSX} {hs : List HdM} {fl : Fl} (h : f env st = some (.fl fl, s1)) : tryM f hs env st = some (fl, s1) := by unfold tryM; rw [h]; rfl
theorem try_xc {f : MSX} {hs : List HdM} {hd : Str → D → MS} {r : Option (Fl × S)} (h : f env st = some (.xc c g d, s1)) (hl : hs.lookup c = some hd) (hr : hd g d env s1 = r) : tryM f hs env st = r := by
  unfold tryM
  rw [h, Option.bind_some]
  dsimp only
  rw [hl]
  exact hr
theorem methN0_of {nk : Nat} {mf : MF} {fo : ME} {r : Option (D × S)} (h : fo env st = some (.ref n, s1)) (hn : s1.ob[n]? = some (.ins c fs xs)) (hm : m ∉ fs) (hf : mf (.ref n :: List.replicate nk .non) s1 = r) : methN0 c m nk mf fo env st = r := by
  unfold methN0
  rw [h, Option.bind_some]
  have e1 : insAt [c] s1 n = some (c, fs, xs) := by unfold insAt; rw [hn]; simp
  show ((insAt [c] s1 n).bind fun z => if m ∉ z.2.1 then mf (.ref n :: List.replicate nk .non) s1 else none) = r
  rw [e1, Option.bind_some, if_pos hm]
  exact hf
end
theorem sIx_m1 (n d : Nat) : HT.sIx n d (some (-1)) = n - 1 := by
  unfold HT.sIx
  simp
  try omega
section
variable {ww : WW} {f : ME} {env : Sg} {st s1 : S} {ds : List D} {d : D}
theorem neg1 (s : S) : prt (unM (unI fun i => .int (-i)) (cst (.int 1))) env s = some (some (-1), s) := rfl
theorem last_of (h : f env st = some (.lst (ds ++ [d]), s1)) : slM slAny f (prt (unM (unI fun i => .int (-i)) (cst (.int 1)))) noP env st = some (.lst [d], s1) := by
  rw [v_slM, h, Option.bind_some]
  show ((prt _ env s1).bind _) = _
  rw [neg1, Option.bind_some]
  show ((slAny (dr s1 (.lst (ds ++ [d]))) (some (-1)) none).map fun z => (z, s1)) = _
  rw [dr_lst, v_slL]
  show some (D.lst (cutD (ds ++ [d]) (some (-1)) none), s1) = _
  unfold cutD
  rw [HT.sIx_none, sIx_m1]
  simp
theorem init_of (h : f env st = some (.lst (ds ++ [d]), s1)) : slM slAny f noP (prt (unM (unI fun i => .int (-i)) (cst (.int 1)))) env st = some (.lst ds, s1) := by
  rw [v_slM, h, Option.bind_some]
  show ((prt (unM (unI fun i => .int (-i)) (cst (.int 1))) env s1).bind fun u => (slAny (dr u.2 (.lst (ds ++ [d]))) none u.1).map fun z => (z, u.2)) = _
  rw [neg1, Option.bind_some]
  show ((slAny (dr s1 (.lst (ds ++ [d]))) none (some (-1))).map fun z => (z, s1)) = _
  rw [dr_lst, v_slL]
  show some (D.lst (cutD (ds ++ [d]) none (some (-1))), s1) = _
  unfold cutD
  rw [HT.sIx_none, sIx_m1]
  simp
end
end Lx
set_option Elab.async false
set_option linter.all false
set_option maxRecDepth 100000
set_option maxHeartbeats 2000000
namespace Lw
open PySem MD L2 Lc
variable {ww : WW}
section
variable {st : S} {n : Nat} {b : Bn} {k : Nat} {us : List D} (hn : st.ob[n]? = some (bO b))
include hn
theorem nice_map {sd : List (D × List D)} (hs : ∀ x ∈ sd, Nice (enD x)) : ∀ d ∈ sd.map enD, Nice d := fun d hd => by
  obtain ⟨x, hx, rfl⟩ := List.mem_map.mp hd
  exact hs x hx
theorem undo_no (hw : b.w = false) (h0 : b.sd = []) : m_Bench_undo [.ref n] st = some (.xc "NothingToUndo" "" .non, st) := by
  have hb : b_Bench_undo = (seqX (liX (dropM (methM "Bench" "idle" m_Bench_idle (rd 0) aNil)))
 (seqX (ifX (tstM (opM eqM (fldM ["Bench"] "standing" (rd 0)) (frz (lstM aNil))))
 (raiN "NothingToUndo")
 (liX nxM))
 (seqX (liX (setM ["Bench"] "undone" (rd 0) (opM addM (fldM ["Bench"] "undone" (rd 0)) (slM slAny (fldM ["Bench"] "standing" (rd 0)) (prt (unM (unI fun i => .int (-i)) (cst (.int 1)))) noP))))
 (liX (retM (methM "Bench" "stand" m_Bench_stand (rd 0) (aCons (slM slAny (fldM ["Bench"] "standing" (rd 0)) noP (prt (unM (unI fun i => .int (-i)) (cst (.int 1))))) aNil))))))) := rfl
  refine Lx.run_of (y := .xc "NothingToUndo" "" .non) ?_
  show b_Bench_undo [.val (.ref n)] st = _
  rw [hb, Lx.seq_nx (e := [.val (.ref n)]) (Lx.li_of (drop_of (Lm.meth_of (fo := rd 0) (s1 := st) rfl hn (by decide +kernel) v_aNil (idle_ok hn hw))))]
  have t := Lm.tst_of (eqnil_of (f := fldM ["Bench"] "standing" (rd 0)) (env := [.val (.ref n)]) (st := st) (s1 := st) (ds := b.sd.map enD) (bfld (f := "standing") (d := .lst (b.sd.map enD)) rfl hn rfl) (by rw [h0]; intro d hd; cases hd))
  rw [h0] at t
  exact Lx.seq_xc (Lx.if_t t Lx.raiN_of)
theorem undo_ok (hw : b.w = false) {sd : List (D × List D)} {x : D × List D} (h0 : b.sd = sd ++ [x]) (hs : ∀ x ∈ b.sd, Nice (enD x)) (hl : b.sd.length + b.ud.length ≤ 1000) :
    m_Bench_undo [.ref n] st = some (.ok (nD sd.length), st.put n (bO { b with sd := sd, ud := b.ud ++ [x], cs := csOf b.c0 sd })) := by
  have hb : b_Bench_undo = (seqX (liX (dropM (methM "Bench" "idle" m_Bench_idle (rd 0) aNil)))
 (seqX (ifX (tstM (opM eqM (fldM ["Bench"] "standing" (rd 0)) (frz (lstM aNil))))
 (raiN "NothingToUndo")
 (liX nxM))
 (seqX (liX (setM ["Bench"] "undone" (rd 0) (opM addM (fldM ["Bench"] "undone" (rd 0)) (slM slAny (fldM ["Bench"] "standing" (rd 0)) (prt (unM (unI fun i => .int (-i)) (cst (.int 1)))) noP))))
 (liX (retM (methM "Bench" "stand" m_Bench_stand (rd 0) (aCons (slM slAny (fldM ["Bench"] "standing" (rd 0)) noP (prt (unM (unI fun i => .int (-i)) (cst (.int 1))))) aNil))))))) := rfl
  refine Lx.run_of (y := .ok (nD sd.length)) ?_
  show b_Bench_undo [.val (.ref n)] st = _
  rw [hb, Lx.seq_nx (e := [.val (.ref n)]) (Lx.li_of (drop_of (Lm.meth_of (fo := rd 0) (s1 := st) rfl hn (by decide +kernel) v_aNil (idle_ok hn hw))))]
  have fS := bfld (f := "standing") (fo := rd 0) (env := [.val (.ref n)]) (d := .lst (b.sd.map enD)) rfl hn rfl
  have t := Lm.tst_of (eqnil_of fS (nice_map hn hs))
  have he : (b.sd.map enD).isEmpty = false := by rw [h0, List.map_append]; simp
  rw [he] at t
  rw [Lx.seq_nx (e := [.val (.ref n)]) (Lx.if_f t (Lx.li_of v_nxM))]
  have hm : b.sd.map enD = sd.map enD ++ [enD x] := by rw [h0, List.map_append]; rfl
  rw [hm] at fS
  have a1 : opM addM (fldM ["Bench"] "undone" (rd 0)) (slM slAny (fldM ["Bench"] "standing" (rd 0)) (prt (unM (unI fun i => .int (-i)) (cst (.int 1)))) noP) [.val (.ref n)] st = some (.lst ((b.ud ++ [x]).map enD), st) := by
    rw [List.map_append]
    exact Lm.add_lst (bfld (f := "undone") (d := .lst (b.ud.map enD)) rfl hn rfl) (Lx.last_of fS) (by rw [List.length_map]; simp; omega)
  have e1 := bset (f := "undone") (b' := { b with ud := b.ud ++ [x] }) (fo := rd 0) a1 rfl hn rfl
  rw [Lx.seq_nx (e := [.val (.ref n)]) (Lx.li_of e1)]
  have hn1 := put_at (y := bO { b with ud := b.ud ++ [x] }) hn
  have fS1 := bfld (f := "standing") (fo := rd 0) (env := [.val (.ref n)]) (b := { b with ud := b.ud ++ [x] }) (d := .lst (b.sd.map enD)) rfl hn1 rfl
  rw [hm] at fS1
  have hs2 : ∀ x ∈ sd, Nice (enD x) := fun y hy => hs y (by rw [h0]; exact List.mem_append.mpr (.inl hy))
  have e2 := stand_ok (b := { b with ud := b.ud ++ [x] }) hn1 hs2
  rw [put_put] at e2
  exact Lx.li_of (Lm.ret_of (Lm.meth_of (fo := rd 0) (s1 := st.put n (bO { b with ud := b.ud ++ [x] })) rfl hn1 (by decide +kernel) (Lm.cons_of (Lx.init_of fS1) v_aNil) e2))
theorem redo_no (hw : b.w = false) (h0 : b.ud = []) : m_Bench_redo [.ref n] st = some (.xc "NothingToRedo" "" .non, st) := by
  have hb : b_Bench_redo = (seqX (liX (dropM (methM "Bench" "idle" m_Bench_idle (rd 0) aNil)))
 (seqX (ifX (tstM (opM eqM (fldM ["Bench"] "undone" (rd 0)) (frz (lstM aNil))))
 (raiN "NothingToRedo")
 (liX nxM))
 (seqX (liX (asgM (nameT 1) (opM subD (fldM ["Bench"] "undone" (rd 0)) (unM (unI fun i => .int (-i)) (cst (.int 1))))))
 (seqX (liX (setM ["Bench"] "undone" (rd 0) (slM slAny (fldM ["Bench"] "undone" (rd 0)) noP (prt (unM (unI fun i => .int (-i)) (cst (.int 1)))))))
 (liX (retM (methM "Bench" "stand" m_Bench_stand (rd 0) (aCons (opM addM (fldM ["Bench"] "standing" (rd 0)) (frz (lstM (aCons (rd 1) aNil)))) aNil)))))))) := rfl
  refine Lx.run_of (y := .xc "NothingToRedo" "" .non) ?_
  show b_Bench_redo [.val (.ref n), .un] st = _
  rw [hb, Lx.seq_nx (e := [.val (.ref n), .un]) (Lx.li_of (drop_of (Lm.meth_of (fo := rd 0) (s1 := st) rfl hn (by decide +kernel) v_aNil (idle_ok hn hw))))]
  have t := Lm.tst_of (eqnil_of (f := fldM ["Bench"] "undone" (rd 0)) (env := [.val (.ref n), .un]) (st := st) (s1 := st) (ds := b.ud.map enD) (bfld (f := "undone") (d := .lst (b.ud.map enD)) rfl hn rfl) (by rw [h0]; intro d hd; cases hd))
  rw [h0] at t
  exact Lx.seq_xc (Lx.if_t t Lx.raiN_of)
theorem redo_ok (hw : b.w = false) {ud : List (D × List D)} {x : D × List D} (h0 : b.ud = ud ++ [x]) (hs : ∀ x ∈ b.sd, Nice (enD x)) (hu : ∀ x ∈ b.ud, Nice (enD x)) (hl : b.sd.length + b.ud.length ≤ 1000) :
    m_Bench_redo [.ref n] st = some (.ok (nD (b.sd.length + 1)), st.put n (bO { b with sd := b.sd ++ [x], ud := ud, cs := x.2 })) := by
  have hb : b_Bench_redo = (seqX (liX (dropM (methM "Bench" "idle" m_Bench_idle (rd 0) aNil)))
 (seqX (ifX (tstM (opM eqM (fldM ["Bench"] "undone" (rd 0)) (frz (lstM aNil))))
 (raiN "NothingToRedo")
 (liX nxM))
 (seqX (liX (asgM (nameT 1) (opM subD (fldM ["Bench"] "undone" (rd 0)) (unM (unI fun i => .int (-i)) (cst (.int 1))))))
 (seqX (liX (setM ["Bench"] "undone" (rd 0) (slM slAny (fldM ["Bench"] "undone" (rd 0)) noP (prt (unM (unI fun i => .int (-i)) (cst (.int 1)))))))
 (liX (retM (methM "Bench" "stand" m_Bench_stand (rd 0) (aCons (opM addM (fldM ["Bench"] "standing" (rd 0)) (frz (lstM (aCons (rd 1) aNil)))) aNil)))))))) := rfl
  refine Lx.run_of (y := .ok (nD (b.sd.length + 1))) ?_
  show b_Bench_redo [.val (.ref n), .un] st = _
  rw [hb, Lx.seq_nx (e := [.val (.ref n), .un]) (Lx.li_of (drop_of (Lm.meth_of (fo := rd 0) (s1 := st) rfl hn (by decide +kernel) v_aNil (idle_ok hn hw))))]
  have hm : b.ud.map enD = ud.map enD ++ [enD x] := by rw [h0, List.map_append]; rfl
  have fU := bfld (f := "undone") (fo := rd 0) (env := [.val (.ref n), .un]) (d := .lst (b.ud.map enD)) rfl hn rfl
  have t := Lm.tst_of (eqnil_of fU (nice_map hn hu))
  have he : (b.ud.map enD).isEmpty = false := by rw [hm]; simp
  rw [he] at t
  rw [Lx.seq_nx (e := [.val (.ref n), .un]) (Lx.if_f t (Lx.li_of v_nxM))]
  rw [hm] at fU
  rw [Lx.seq_nx (e := [.val (.ref n), .val (enD x)]) (Lx.li_of (Lm.asg_nx (end_of fU)))]
  have fU1 := bfld (f := "undone") (fo := rd 0) (env := [.val (.ref n), .val (enD x)]) (d := .lst (b.ud.map enD)) rfl hn rfl
  rw [hm] at fU1
  have e1 := bset (f := "undone") (b' := { b with ud := ud }) (fo := rd 0) (Lx.init_of fU1) rfl hn rfl
  rw [Lx.seq_nx (e := [.val (.ref n), .val (enD x)]) (Lx.li_of e1)]
  have hn1 := put_at (y := bO { b with ud := ud }) hn
  have e3 : opM addM (fldM ["Bench"] "standing" (rd 0)) (frz (lstM (aCons (rd 1) aNil))) [.val (.ref n), .val (enD x)] (st.put n (bO { b with ud := ud })) = some (.lst ((b.sd ++ [x]).map enD), st.put n (bO { b with ud := ud })) := by
    rw [List.map_append]
    exact Lm.add_lst (bfld (b := { b with ud := ud }) (f := "standing") rfl hn1 rfl) (Lm.lst_of (Lm.cons_of (f := rd 1) (s1 := st.put n (bO { b with ud := ud })) rfl v_aNil) (by simp)) (by rw [List.length_map]; simp; omega)
  have hs2 : ∀ y ∈ b.sd ++ [x], Nice (enD y) := fun y hy => by
    rcases List.mem_append.mp hy with z | z
    · exact hs y z
    · rw [List.mem_singleton.mp z]; exact hu x (by rw [h0]; simp)
  have e4 := stand_ok (b := { b with ud := ud }) hn1 hs2
  have hcs : csOf b.c0 (b.sd ++ [x]) = x.2 := by
    unfold csOf
    rw [List.getLast?_append]
    rfl
  rw [put_put] at e4
  dsimp only at e4
  rw [hcs, List.length_append] at e4
  exact Lx.li_of (Lm.ret_of (Lm.meth_of (fo := rd 0) (s1 := st.put n (bO { b with ud := ud })) rfl hn1 (by decide +kernel) (Lm.cons_of e3 v_aNil) e4))
theorem get_ok {v : D} (hq : v.ql = true) : m_Bench___getitem__ [.ref n, v] st = some (match whole v b.cs.length with | none => .xc "NoCut" "index" v | some i => .ok (b.cs.getD i .non), st) := by
  have hb : b_Bench___getitem__ = (retX (callX m_cut_at (puA (aCons (fldM ["Bench"] "cuts" (rd 0)) (aCons (rd 1) aNil))))) := rfl
  refine Lx.run_of ?_
  show b_Bench___getitem__ [.val (.ref n), .val v] st = _
  rw [hb]
  exact Lx.ret_of (Lx.call_of (mf := m_cut_at) (Lx.puA_of (Lm.cons_of (bfld (f := "cuts") (fo := rd 0) rfl hn rfl) (Lm.cons_of (f := rd 1) (s1 := st) rfl v_aNil))) (atq b.cs hq st))
theorem state_ok : m_Bench_state [.ref n, .non] st = some (.tup b.cs, st) := by
  have hb : b_Bench_state = (seqM (ifS (tstM (opM isM (rd 1) (cst .non)))
 (retM (fldM ["Bench"] "cuts" (rd 0)))
 nxM)
 (seqM (ifS (notM (truM (callM m_is_whole (aCons (rd 1) (aCons (cst (.int 0)) (aCons (cbM lenA (aCons (fldM ["Bench"] "standing" (rd 0)) aNil)) aNil))))))
 stkM
 nxM)
 (retM (ifM (tstM (opM eqM (rd 1) (cst (.int 0)))) (fldM ["Bench"] "begun" (rd 0)) (opM subD (opM subD (fldM ["Bench"] "standing" (rd 0)) (opM subM (rd 1) (cst (.int 1)))) (cst (.int 1))))))) := rfl
  refine Lm.run_of ?_
  show b_Bench_state [.val (.ref n), .val .non] st = _
  rw [hb]
  refine Lm.seq_rt (Lm.ifs_t (Lc.is_of (f := rd 1) (s1 := st) (d := .non) rfl rfl) ?_)
  exact Lm.ret_of (bfld (f := "cuts") (fo := rd 0) rfl hn rfl)
theorem edits_ok (hl : b.sd.length ≤ 1000) : m_Bench_edits [.ref n] st = some (.tup (b.sd.map (·.1)), st) := by
  have hb : b_Bench_edits = (retM (cbM tupleM (aCons (frz (compM (seqI (fldM ["Bench"] "standing" (rd 0))) (tupT 2 (consT (nameT 1) (consT (nameT 2) nilT))) yesM (rd 1) [1, 2])) aNil))) := rfl
  refine Lm.run_of ?_
  show b_Bench_edits [.val (.ref n), .un, .un] st = _
  rw [hb]
  have hi : seqI (fldM ["Bench"] "standing" (rd 0)) [.val (.ref n), .un, .un] st = some (b.sd.map enD, st) := by
    rw [v_seqI, bfld (f := "standing") (fo := rd 0) (d := .lst (b.sd.map enD)) rfl hn rfl, Option.bind_some]
    rfl
  have hc := Lc.comp_map (F := enD) (G := fun x : D × List D => x.1) (en := fun x => [.val (.ref n), .val x.1, .val (.tup x.2)]) (l := b.sd) (t := tupT 2 (consT (nameT 1) (consT (nameT 2) nilT))) (f := rd 1) (vs := [1, 2]) (env1 := [.val (.ref n), .un, .un]) hi (by omega) rfl fun a _ => ⟨rfl, rfl⟩
  refine Lm.ret_of ?_
  rw [v_cbM, Lm.cons_of hc v_aNil, Option.bind_some]
  rfl
end
noncomputable def vxU (n : Nat) : Rx → Rx
  | .ok _ => .ok (.ref n)
  | x => x
noncomputable def vxN : Rx → Rx
  | .ok _ => .ok .non
  | x => x
section
variable {st : S} {n : Nat} {b : Bn} {k : Nat} {us : List D} (hn : st.ob[n]? = some (bO b)) (ok : BnOk b k us) (hl : b.sd.length < 60)
include hn ok hl
theorem iadd_ok {v : D} (he : v.ql = true) : m_Bench___iadd__ [.ref n, v] st = some (vxU n (rxB b (due k us.length b.cs (.add v))), stB st n b (Ed.add v).d (due k us.length b.cs (.add v))) := by
  have hb : b_Bench___iadd__ = (seqX (drpX (metX "Bench" "add" m_Bench_add (rd 0) (puA (aCons (rd 1) aNil))))
 (liX (retM (rd 0)))) := rfl
  refine Lx.run_of ?_
  show b_Bench___iadd__ [.val (.ref n), .val v] st = _
  rw [hb]
  have c := Lx.met_of (fo := rd 0) (env := [.val (.ref n), .val v]) (c := "Bench") (m := "add") (s1 := st) rfl hn (by decide +kernel) (Lx.puA_of (Lm.cons_of (f := rd 1) (s1 := st) rfl v_aNil)) (add_ok hn ok hl he)
  cases hd : due k us.length b.cs (.add v) with
  | ok ds => rw [hd] at c; rw [Lx.seq_nx (Lx.drp_of c)]; exact Lx.li_of (Lm.ret_of rfl)
  | no v => rw [hd] at c; exact Lx.seq_xc (Lx.drp_xc c)
  | bad x => rw [hd] at c; exact Lx.seq_xc (Lx.drp_xc c)
theorem isub_ok {v : D} (he : v.ql = true) : m_Bench___isub__ [.ref n, v] st = some (vxU n (rxB b (due k us.length b.cs (.drop v))), stB st n b (Ed.drop v).d (due k us.length b.cs (.drop v))) := by
  have hb : b_Bench___isub__ = (seqX (drpX (metX "Bench" "drop" m_Bench_drop (rd 0) (puA (aCons (rd 1) aNil))))
 (liX (retM (rd 0)))) := rfl
  refine Lx.run_of ?_
  show b_Bench___isub__ [.val (.ref n), .val v] st = _
  rw [hb]
  have c := Lx.met_of (fo := rd 0) (env := [.val (.ref n), .val v]) (c := "Bench") (m := "drop") (s1 := st) rfl hn (by decide +kernel) (Lx.puA_of (Lm.cons_of (f := rd 1) (s1 := st) rfl v_aNil)) (drop_ok hn ok hl he)
  cases hd : due k us.length b.cs (.drop v) with
  | ok ds => rw [hd] at c; rw [Lx.seq_nx (Lx.drp_of c)]; exact Lx.li_of (Lm.ret_of rfl)
  | no v => rw [hd] at c; exact Lx.seq_xc (Lx.drp_xc c)
  | bad x => rw [hd] at c; exact Lx.seq_xc (Lx.drp_xc c)
theorem set_ok {v c : D} (he : v.ql = true ∧ c.ql = true) : m_Bench___setitem__ [.ref n, v, c] st = some (vxN (rxB b (due k us.length b.cs (.change v c))), stB st n b (Ed.change v c).d (due k us.length b.cs (.change v c))) := by
  have hb : b_Bench___setitem__ = (drpX (metX "Bench" "change" m_Bench_change (rd 0) (puA (aCons (rd 1) (aCons (rd 2) aNil))))) := rfl
  have c1 := Lx.met_of (fo := rd 0) (env := [.val (.ref n), .val v, .val c]) (c := "Bench") (m := "change") (s1 := st) rfl hn (by decide +kernel) (Lx.puA_of (Lm.cons_of (f := rd 1) (s1 := st) rfl (Lm.cons_of (f := rd 2) (s1 := st) rfl v_aNil))) (change_ok hn ok hl he)
  cases hd : due k us.length b.cs (.change v c) with
  | ok ds =>
    rw [hd] at c1
    refine Lx.run_nx (e := [.val (.ref n), .val v, .val c]) ?_
    show b_Bench___setitem__ [.val (.ref n), .val v, .val c] st = _
    rw [hb]
    exact Lx.drp_of c1
  | no v =>
    rw [hd] at c1
    refine Lx.run_of (y := .xc "NoCut" "index" v) ?_
    exact Lx.drp_xc c1
  | bad x =>
    rw [hd] at c1
    refine Lx.run_of (y := .xc "BadCuts" "error" x) ?_
    exact Lx.drp_xc c1
end
end Lw
set_option Elab.async false
set_option linter.all false
set_option maxRecDepth 100000
set_option maxHeartbeats 2000000
namespace Lw
open PySem MD L2 Lc
variable {ww : WW}
theorem intsub {f h : ME} {env : Sg} {st s1 s2 : S} {i j : Int} (h1 : f env st = some (.int i, s1)) (h2 : h env s1 = some (.int j, s2)) : opM subM f h env st = some (.int (i - j), s2) := by
  rw [v_opM, h1, Option.bind_some, h2, Option.bind_some]; rfl
theorem asL_of {f : Str} {items : List (Option Str)} {j e : Nat} {d : D} {env : Sg} {st : S} (he : e < env.length) (hi : items.length ≤ 1000) : asL f items j e f d env st = some (.nx (((env.set e .un).set j (.val (.lst (items.map (asD d))))).set e .un), st) := by
  unfold asL
  rw [if_pos ⟨he, rfl, hi⟩]
theorem lenO_of {st : S} {n : Nat} {b : Bn} {fo : ME} {env : Sg} (h : fo env st = some (.ref n, st)) (hn : st.ob[n]? = some (bO b)) (hl : b.sd.length ≤ 1000) : lenOM "Bench" m_Bench___len__ fo env st = some (nD b.sd.length, st) := by
  unfold lenOM
  rw [h]
  show (insAt ["Bench"] st n).bind _ = _
  unfold insAt
  rw [hn]
  show ((if ("Bench" : Str) ∈ (["Bench"] : List Str) then _ else _) : Option _).bind _ = _
  rw [if_pos (by simp), Option.bind_some]
  dsimp only
  rw [lenM_ok hn, Option.bind_some]
  show (if (0 : Int) ≤ ((b.sd.length : Nat) : Int) ∧ ((b.sd.length : Nat) : Int) < 2 ^ 63 then _ else _) = _
  rw [if_pos ⟨by omega, by omega⟩]
theorem sappX {st s1 : S} {n : Nat} {ds0 ds : List D} {d : D} {env : Sg} {fo fx : ME} (h0 : st.ob[n]? = some (.lst ds0)) (ho : fo env st = some (.ref n, st)) (hx : fx env st = some (d, s1)) (h : s1.ob[n]? = some (.lst ds)) (hl : ds.length ≤ 900000) : sappM fo fx env st = some (.nx env, s1.put n (.lst (ds ++ [d]))) := by
  unfold sappM
  rw [ho, Option.bind_some]
  show (lstAt st n).bind _ = _
  rw [lstAt_of h0, Option.bind_some, hx, Option.bind_some]
  show ((lstAt s1 n).bind fun ds => if ds.length < sizeLine then some (Fl.nx env, s1.put n (.lst (ds ++ [d]))) else none) = _
  rw [lstAt_of h, Option.bind_some, if_pos (Nat.lt_of_le_of_lt hl (by decide))]
theorem lenR {g : ME} {env : Sg} {st : S} {n : Nat} {ds : List D} (h : g env st = some (.ref n, st)) (hn : st.ob[n]? = some (.lst ds)) : cbM lenA (aCons g aNil) env st = some (nD ds.length, st) := by
  rw [v_cbM, Lm.cons_of h v_aNil, Option.bind_some]
  show ((lenA [dr st (.ref n)]).map _) = _
  have : dr st (.ref n) = .lst ds := by
    show (match st.ob[n]? with | some (.lst ds) => D.lst ds | some (.dic _ ks ds) => D.dic ks ds | _ => D.ref n) = _
    rw [hn]
  rw [this]; rfl
theorem lk2 {α : Type} {a b : Str} {x y : α} (h : (b == a) = false) : List.lookup b [(a, x), (b, y)] = some y := by
  rw [List.lookup_cons, h, List.lookup_cons, beq_self_eq_true]
noncomputable def gotD (cs : List D) (v : D) : D := match whole v cs.length with
  | none => .lst [.str "NoCut", v]
  | some i => .lst [.str "ok", cs.getD i .non]
section
variable {st : S} {n : Nat} {b : Bn} {k : Nat} {us : List D} (hn : st.ob[n]? = some (bO b))
include hn
theorem got_ok {v : D} (hq : v.ql = true) : m__law_got [.ref n, v] st = some (gotD b.cs v, st) := by
  have hb : b__law_got = (seqM (tryM (asgX (nameT 2) (lstX (consX (puX (cst (.str "ok"))) (consX (getOX "Bench" m_Bench___getitem__ (rd 0) (rd 1)) (puA aNil)))))
 [("NoCut", (asL "index" [some "NoCut", none] 2 3))])
 (retM (rd 2))) := rfl
  refine Lm.run_of ?_
  show b__law_got [.val (.ref n), .val v, .un, .un] st = _
  rw [hb]
  have c := Lx.getO_of (env := [.val (.ref n), .val v, .un, .un]) (fo := rd 0) (fi := rd 1) (s1 := st) (s2 := st) rfl rfl hn (get_ok hn hq)
  unfold gotD
  cases hw : whole v b.cs.length with
  | none =>
    rw [hw] at c
    rw [Lm.seq_nx (e := [.val (.ref n), .val v, .val (.lst [.str "NoCut", v]), .un]) (Lx.try_xc (Lx.asg_xc (Lx.lst_xc (Lx.cons_xc2 (Lx.pu_of (f := cst (.str "ok")) (s1 := st) rfl) (Lx.cons_xc c)))) rfl (asL_of (by show 3 < 4; decide) (by show 2 ≤ 1000; decide)))]
    exact Lm.ret_of rfl
  | some i =>
    rw [hw] at c
    rw [Lm.seq_nx (e := [.val (.ref n), .val v, .val (.lst [.str "ok", b.cs.getD i .non]), .un]) (Lx.try_fl (Lx.asg_of (i := 2) (Lx.lst_of (Lx.cons_of (Lx.pu_of (f := cst (.str "ok")) (s1 := st) rfl) (Lx.cons_of c (Lx.puA_of v_aNil))) (by simp))))]
    exact Lm.ret_of rfl
theorem b_bk : b__law_back = (seqM (tryM (asgX (nameT 2) (lstX (consX (puX (cst (.str "ok"))) (consX (ifEX (tstM (opM eqM (rd 1) (cst (.str "undo")))) (metX "Bench" "undo" m_Bench_undo (rd 0) (puA aNil)) (metX "Bench" "redo" m_Bench_redo (rd 0) (puA aNil))) (puA aNil)))))
 [("NothingToUndo", (fun _ _ => (asgM (nameT 2) (frz (lstM (aCons (cst (.str "NothingToUndo")) aNil)))))), ("NothingToRedo", (fun _ _ => (asgM (nameT 2) (frz (lstM (aCons (cst (.str "NothingToRedo")) aNil))))))])
 (retM (rd 2))) := rfl
theorem back_undo (hw : b.w = false) (hs : ∀ x ∈ b.sd, Nice (enD x)) (hl : b.sd.length + b.ud.length ≤ 1000) :
    (b.sd = [] ∧ m__law_back [.ref n, .str "undo"] st = some (.lst [.str "NothingToUndo"], st)) ∨
    ∃ sd x, b.sd = sd ++ [x] ∧ m__law_back [.ref n, .str "undo"] st = some (.lst [.str "ok", nD sd.length], st.put n (bO { b with sd := sd, ud := b.ud ++ [x], cs := csOf b.c0 sd })) := by
  have t : tstM (opM eqM (rd 1) (cst (.str "undo"))) [.val (.ref n), .val (.str "undo"), .un] st = some (true, st) := Lx.eqS (f := rd 1) (s1 := st) rfl (h := cst (.str "undo")) rfl (decide_eq_true rfl)
  rcases List.eq_nil_or_concat b.sd with h0 | ⟨sd, x, h0⟩
  · refine .inl ⟨h0, ?_⟩
    have c := Lx.met_of (fo := rd 0) (env := [.val (.ref n), .val (.str "undo"), .un]) (c := "Bench") (m := "undo") (s1 := st) rfl hn (by decide +kernel) (Lx.puA_of v_aNil) (undo_no hn hw h0)
    refine Lm.run_of ?_
    show b__law_back [.val (.ref n), .val (.str "undo"), .un] st = _
    rw [b_bk hn, Lm.seq_nx (e := [.val (.ref n), .val (.str "undo"), .val (.lst [.str "NothingToUndo"])]) (Lx.try_xc (Lx.asg_xc (Lx.lst_xc (Lx.cons_xc2 (Lx.pu_of (f := cst (.str "ok")) (s1 := st) rfl) (Lx.cons_xc (Lx.ife_t t c))))) rfl (Lm.asg_nx (Lm.lst_of (Lm.cons_of (f := cst (.str "NothingToUndo")) (s1 := st) rfl v_aNil) (by simp))))]
    exact Lm.ret_of rfl
  · rw [List.concat_eq_append] at h0
    refine .inr ⟨sd, x, h0, ?_⟩
    have c := Lx.met_of (fo := rd 0) (env := [.val (.ref n), .val (.str "undo"), .un]) (c := "Bench") (m := "undo") (s1 := st) rfl hn (by decide +kernel) (Lx.puA_of v_aNil) (undo_ok hn hw h0 hs hl)
    refine Lm.run_of ?_
    show b__law_back [.val (.ref n), .val (.str "undo"), .un] st = _
    rw [b_bk hn, Lm.seq_nx (e := [.val (.ref n), .val (.str "undo"), .val (.lst [.str "ok", nD sd.length])]) (Lx.try_fl (Lx.asg_of (i := 2) (Lx.lst_of (Lx.cons_of (Lx.pu_of (f := cst (.str "ok")) (s1 := st) rfl) (Lx.cons_of (Lx.ife_t t c) (Lx.puA_of v_aNil))) (by simp))))]
    exact Lm.ret_of rfl
theorem back_redo (hw : b.w = false) (hs : ∀ x ∈ b.sd, Nice (enD x)) (hu : ∀ x ∈ b.ud, Nice (enD x)) (hl : b.sd.length + b.ud.length ≤ 1000) :
    (b.ud = [] ∧ m__law_back [.ref n, .str "redo"] st = some (.lst [.str "NothingToRedo"], st)) ∨
    ∃ ud x, b.ud = ud ++ [x] ∧ m__law_back [.ref n, .str "redo"] st = some (.lst [.str "ok", nD (b.sd.length + 1)], st.put n (bO { b with sd := b.sd ++ [x], ud := ud, cs := x.2 })) := by
  have t : tstM (opM eqM (rd 1) (cst (.str "undo"))) [.val (.ref n), .val (.str "redo"), .un] st = some (false, st) := Lx.eqS (f := rd 1) (s1 := st) rfl (h := cst (.str "undo")) rfl (by decide +kernel)
  rcases List.eq_nil_or_concat b.ud with h0 | ⟨ud, x, h0⟩
  · refine .inl ⟨h0, ?_⟩
    have c := Lx.met_of (fo := rd 0) (env := [.val (.ref n), .val (.str "redo"), .un]) (c := "Bench") (m := "redo") (s1 := st) rfl hn (by decide +kernel) (Lx.puA_of v_aNil) (redo_no hn hw h0)
    refine Lm.run_of ?_
    show b__law_back [.val (.ref n), .val (.str "redo"), .un] st = _
    rw [b_bk hn, Lm.seq_nx (e := [.val (.ref n), .val (.str "redo"), .val (.lst [.str "NothingToRedo"])]) (Lx.try_xc (Lx.asg_xc (Lx.lst_xc (Lx.cons_xc2 (Lx.pu_of (f := cst (.str "ok")) (s1 := st) rfl) (Lx.cons_xc (Lx.ife_f t c))))) (lk2 (by decide +kernel)) (Lm.asg_nx (Lm.lst_of (Lm.cons_of (f := cst (.str "NothingToRedo")) (s1 := st) rfl v_aNil) (by simp))))]
    exact Lm.ret_of rfl
  · rw [List.concat_eq_append] at h0
    refine .inr ⟨ud, x, h0, ?_⟩
    have c := Lx.met_of (fo := rd 0) (env := [.val (.ref n), .val (.str "redo"), .un]) (c := "Bench") (m := "redo") (s1 := st) rfl hn (by decide +kernel) (Lx.puA_of v_aNil) (redo_ok hn hw h0 hs hu hl)
    refine Lm.run_of ?_
    show b__law_back [.val (.ref n), .val (.str "redo"), .un] st = _
    rw [b_bk hn, Lm.seq_nx (e := [.val (.ref n), .val (.str "redo"), .val (.lst [.str "ok", nD (b.sd.length + 1)])]) (Lx.try_fl (Lx.asg_of (i := 2) (Lx.lst_of (Lx.cons_of (Lx.pu_of (f := cst (.str "ok")) (s1 := st) rfl) (Lx.cons_of (Lx.ife_f t c) (Lx.puA_of v_aNil))) (by simp))))]
    exact Lm.ret_of rfl
end
inductive Ed3 : Ed → Prop
  | add (v : D) : Ed3 (.add v)
  | drop (v : D) : Ed3 (.drop v)
  | change (v c : D) : Ed3 (.change v c)
section
variable {st : S} {n : Nat} {b : Bn} {k : Nat} {us : List D} (hn : st.ob[n]? = some (bO b)) (ok : BnOk b k us) (hl : b.sd.length < 60) (hcs : b.cs = csOf b.c0 b.sd)
include hn ok hl hcs
theorem item_ok {e : Ed} (he : e.ql) (h3 : Ed3 e) : m__law_by_item [.ref n, e.d] st = some (rsB b (due k us.length b.cs e), stB st n b e.d (due k us.length b.cs e)) := by
  let TB : MSX := (ifX (tstM (opM eqM (opM subD (rd 1) (cst (.int 0))) (cst (.str "add"))))
 (iopX 2 "Bench" m_Bench___iadd__ (opM subD (rd 1) (cst (.int 1))))
 (ifX (tstM (opM eqM (opM subD (rd 1) (cst (.int 0))) (cst (.str "drop"))))
 (iopX 2 "Bench" m_Bench___isub__ (opM subD (rd 1) (cst (.int 1))))
 (setOX "Bench" m_Bench___setitem__ (opM subD (rd 1) (cst (.int 2))) (rd 2) (opM subD (rd 1) (cst (.int 1))))))
  let TC : MT := (orM (tstM (opM neM (noX (metX "Bench" "undo" m_Bench_undo (rd 2) (puA aNil))) (lenOM "Bench" m_Bench___len__ (rd 0)))) (tstM (opM neM (noX (metX "Bench" "redo" m_Bench_redo (rd 2) (puA aNil))) (lenOM "Bench" m_Bench___len__ (rd 0)))))
  have hb : b__law_by_item = (seqM (asgM (nameT 2) (rd 0))
 (seqM (tryM (seqX TB
 (liX (seqM (asgM (nameT 3) (frz (lstM (aCons (cst (.str "ok")) (aCons (lenOM "Bench" m_Bench___len__ (rd 2)) aNil)))))
 (ifS TC
 (asgM (nameT 3) (frz (lstM (aCons (cst (.str "other")) aNil))))
 nxM))))
 [("NoCut", (asL "index" [some "NoCut", none] 3 4)), ("BadCuts", (asL "error" [some "BadCuts", none] 3 4))])
 (retM (rd 3)))) := rfl
  refine Lm.run_of ?_
  show b__law_by_item [.val (.ref n), .val e.d, .un, .un, .un] st = _
  let E1 : Sg := [.val (.ref n), .val e.d, .val (.ref n), .un, .un]
  rw [hb, Lm.seq_nx (e := E1) (Lm.asg_nx rfl)]
  -- what raises
  have first : TB E1 st = some (match rxB b (due k us.length b.cs e) with | .ok _ => .fl (.nx E1) | .xc c f d => .xc c f d, stB st n b e.d (due k us.length b.cs e)) := by
    have at_ : ∀ {j : Nat} {d : D} {es : List D} {x2 x3 x4 : Sl}, es[j]? = some d → opM subD (rd 1) (cst (.int ((j : Nat) : Int))) [.val (.ref n), .val (.tup es), x2, x3, x4] st = some (d, st) := fun {j d es x2 x3 x4} h => Lh.at_tup (j := j) (f := rd 1) (s1 := st) (ds := es) rfl h
    have no : ∀ {w x : Str} {es : List D} {c : Bool} {x2 x3 x4 : Sl}, decide (w.cps.toList = x.cps.toList) = c → tstM (opM eqM (opM subD (rd 1) (cst (.int 0))) (cst (.str x))) [.val (.ref n), .val (.tup (.str w :: es)), x2, x3, x4] st = some (c, st) := fun {w x es c x2 x3 x4} hc => Lx.eqS (at_ (j := 0) (es := .str w :: es) rfl) (h := cst (.str x)) rfl hc
    cases h3 with
    | add v =>
      refine Lx.if_t (no (by decide +kernel)) ?_
      have c := iadd_ok hn ok hl (v := v) he
      cases hd : due k us.length b.cs (.add v) with
      | ok ds => rw [hd] at c; exact Lx.iop_of (i := 2) rfl (at_ (j := 1) rfl) hn c
      | no v => rw [hd] at c; exact Lx.iop_xc (i := 2) rfl (at_ (j := 1) rfl) hn c
      | bad x => rw [hd] at c; exact Lx.iop_xc (i := 2) rfl (at_ (j := 1) rfl) hn c
    | drop v =>
      refine Lx.if_f (no (by decide +kernel)) (Lx.if_t (no (by decide +kernel)) ?_)
      have c := isub_ok hn ok hl (v := v) he
      cases hd : due k us.length b.cs (.drop v) with
      | ok ds => rw [hd] at c; exact Lx.iop_of (i := 2) rfl (at_ (j := 1) rfl) hn c
      | no v => rw [hd] at c; exact Lx.iop_xc (i := 2) rfl (at_ (j := 1) rfl) hn c
      | bad x => rw [hd] at c; exact Lx.iop_xc (i := 2) rfl (at_ (j := 1) rfl) hn c
    | change v w =>
      refine Lx.if_f (no (by decide +kernel)) (Lx.if_f (no (by decide +kernel)) ?_)
      have c := set_ok hn ok hl (v := v) (c := w) he
      cases hd : due k us.length b.cs (.change v w) with
      | ok ds => rw [hd] at c; exact Lx.setO_of (fo := rd 2) (at_ (j := 2) rfl) (s1 := st) rfl (at_ (j := 1) rfl) hn c
      | no v => rw [hd] at c; exact Lx.setO_xc (fo := rd 2) (at_ (j := 2) rfl) (s1 := st) rfl (at_ (j := 1) rfl) hn c
      | bad x => rw [hd] at c; exact Lx.setO_xc (fo := rd 2) (at_ (j := 2) rfl) (s1 := st) rfl (at_ (j := 1) rfl) hn c
  cases hd : due k us.length b.cs e with
  | no v =>
    rw [hd] at first
    rw [Lm.seq_nx (e := [.val (.ref n), .val e.d, .val (.ref n), .val (.lst [.str "NoCut", v]), .un]) (Lx.try_xc (Lx.seq_xc first) rfl (asL_of (by show 4 < 5; decide) (by show 2 ≤ 1000; decide)))]
    exact Lm.ret_of rfl
  | bad x =>
    rw [hd] at first
    rw [Lm.seq_nx (e := [.val (.ref n), .val e.d, .val (.ref n), .val (.lst [.str "BadCuts", x]), .un]) (Lx.try_xc (Lx.seq_xc first) (lk2 (by decide +kernel)) (asL_of (by show 4 < 5; decide) (by show 2 ≤ 1000; decide)))]
    exact Lm.ret_of rfl
  | ok ds =>
    rw [hd] at first
    obtain ⟨s1, hs1⟩ : ∃ s1, s1 = st.put n (bO (b.done e.d ds)) := ⟨_, rfl⟩
    have first : TB E1 st = some (.fl (.nx E1), s1) := by rw [hs1]; exact first
    have hn1 : s1.ob[n]? = some (bO (b.done e.d ds)) := by rw [hs1]; exact put_at hn
    have hlen : (b.done e.d ds).sd.length = b.sd.length + 1 := by show (b.sd ++ [(e.d, ds)]).length = _; rw [List.length_append]; rfl
    let E2 : Sg := [.val (.ref n), .val e.d, .val (.ref n), .val (.lst [.str "ok", nD (b.sd.length + 1)]), .un]
    have l1 := lenO_of (fo := rd 2) (env := E1) (st := s1) rfl hn1 (by rw [hlen]; omega)
    rw [hlen] at l1
    have a2 : asgM (nameT 3) (frz (lstM (aCons (cst (.str "ok")) (aCons (lenOM "Bench" m_Bench___len__ (rd 2)) aNil)))) E1 s1 = some (.nx E2, s1) := Lm.asg_nx (Lm.lst_of (Lm.cons_of (f := cst (.str "ok")) (s1 := s1) rfl (Lm.cons_of l1 v_aNil)) (by simp))
    have nice : ∀ x ∈ (b.done e.d ds).sd, Nice (enD x) := fun x hx => by
      rcases List.mem_append.mp hx with z | z
      · exact ok.sn x z
      · rw [List.mem_singleton.mp z]; exact en_nice ok.k4 ok.cz hd
    have hw1 : (b.done e.d ds).w = false := ok.w
    have u1 := undo_ok hn1 hw1 (sd := b.sd) (x := (e.d, ds)) rfl nice (by rw [hlen]; show _ + 0 ≤ _; omega)
    obtain ⟨b2, hb2⟩ : ∃ b2 : Bn, b2 = { b.done e.d ds with sd := b.sd, ud := (b.done e.d ds).ud ++ [(e.d, ds)], cs := csOf b.c0 b.sd } := ⟨_, rfl⟩
    obtain ⟨s2, hs2⟩ : ∃ s2, s2 = s1.put n (bO b2) := ⟨_, rfl⟩
    have u1 : m_Bench_undo [.ref n] s1 = some (.ok (nD b.sd.length), s2) := by rw [hs2, hb2]; exact u1
    have hn2 : s2.ob[n]? = some (bO b2) := by rw [hs2]; exact put_at hn1
    have hsd2 : b2.sd = b.sd := by rw [hb2]
    have hud2 : b2.ud = [] ++ [(e.d, ds)] := by rw [hb2]; rfl
    have c1 := Lx.noX_of (Lx.met_of (fo := rd 2) (env := E2) (c := "Bench") (m := "undo") (s1 := s1) rfl hn1 (by decide +kernel) (Lx.puA_of v_aNil) u1)
    have l2 := lenO_of (fo := rd 0) (env := E2) (st := s2) rfl hn2 (by rw [hsd2]; omega)
    rw [hsd2] at l2
    have t1 := Lh.ne_int (i := ((b.sd.length : Nat) : Int)) (j := ((b.sd.length : Nat) : Int)) c1 l2
    rw [decide_eq_false (by simp)] at t1
    have r1 := redo_ok hn2 (by rw [hb2]; exact ok.w) hud2 (by rw [hsd2]; exact ok.sn) (by rw [hud2]; intro x hx; rw [List.nil_append, List.mem_singleton] at hx; rw [hx]; exact en_nice ok.k4 ok.cz hd) (by rw [hsd2, hud2]; simp; omega)
    obtain ⟨s3, hs3⟩ : ∃ s3, s3 = s2.put n (bO (b.done e.d ds)) := ⟨_, rfl⟩
    have e3 : s3 = s1 := by rw [hs3, hs2, hs1, put_put, put_put]
    have r1 : m_Bench_redo [.ref n] s2 = some (.ok (nD (b.sd.length + 1)), s3) := by
      rw [hsd2] at r1
      rw [r1, hs3]
      rw [hb2]
      rfl
    rw [e3] at r1
    have c2 := Lx.noX_of (Lx.met_of (fo := rd 2) (env := E2) (c := "Bench") (m := "redo") (s1 := s2) rfl hn2 (by decide +kernel) (Lx.puA_of v_aNil) r1)
    have l3 := lenO_of (fo := rd 0) (env := E2) (st := s1) rfl hn1 (by rw [hlen]; omega)
    rw [hlen] at l3
    have t2 := Lh.ne_int (i := ((b.sd.length + 1 : Nat) : Int)) (j := ((b.sd.length + 1 : Nat) : Int)) c2 l3
    rw [decide_eq_false (by simp)] at t2
    have tc : TC E2 s1 = some (false, s1) := Lh.or_f t1 t2
    rw [Lm.seq_nx (e := E2) (Lx.try_fl (s1 := s1) (by rw [Lx.seq_nx first]; exact Lx.li_of (by rw [Lm.seq_nx a2]; exact Lm.ifs_f tc v_nxM)))]
    rw [hs1]
    exact Lm.ret_of rfl
end
end Lw
set_option Elab.async false
set_option linter.all false
set_option maxRecDepth 100000
set_option maxHeartbeats 2000000
namespace Lw
open PySem MD L2 Lc
variable {ww : WW}
noncomputable abbrev hdS (c0 : List D) : D := .tup [.non, .tup c0]
theorem put_ne {st : S} {n m : Nat} {o u : Ob} (h : st.ob[m]? = some u) (hne : n ≠ m) : (st.put n o).ob[m]? = some u := by
  show (st.ob.set n o)[m]? = _
  rw [List.getElem?_set_ne hne]
  exact h
theorem b_bd : b__law_backed = (seqM (asgM (tupT 2 (consT (nameT 3) (consT (nameT 4) nilT))) (ifM (tstM (opM eqM (rd 2) (cst (.int 0)))) (tupM (aCons (rd 0) (aCons (rd 1) aNil))) (tupM (aCons (rd 1) (aCons (rd 0) aNil)))))
 (seqM (ifS (tstM (opM ltA (cbM lenA (aCons (rd 3) aNil)) (opM subM (cst (.int 2)) (rd 2))))
 (retM (frz (lstM (aCons (ifM (tstM (opM eqM (rd 2) (cst (.int 0)))) (cst (.str "NothingToUndo")) (cst (.str "NothingToRedo"))) aNil))))
 nxM)
 (seqM (sappM (rd 4) (spopM (rd 3)))
 (retM (frz (lstM (aCons (cst (.str "ok")) (aCons (opM subM (cbM lenA (aCons (rd 0) aNil)) (cst (.int 1))) aNil)))))))) := rfl
section
variable {st : S} {p q : Nat} {c0 : List D} {sd ud : List (D × List D)} (hp : st.ob[p]? = some (.lst (hdS c0 :: sd.map enD))) (hq : st.ob[q]? = some (.lst (ud.map enD))) (hne : p ≠ q) (hl : sd.length + ud.length ≤ 1000)
include hp hq hne hl
theorem backed0 : (sd = [] ∧ m__law_backed [.ref p, .ref q, .int 0] st = some (.lst [.str "NothingToUndo"], st)) ∨
    ∃ sd' x, sd = sd' ++ [x] ∧ m__law_backed [.ref p, .ref q, .int 0] st = some (.lst [.str "ok", nD sd'.length], (st.put p (.lst (hdS c0 :: sd'.map enD))).put q (.lst ((ud ++ [x]).map enD))) := by
  have e1 : asgM (tupT 2 (consT (nameT 3) (consT (nameT 4) nilT))) (ifM (tstM (opM eqM (rd 2) (cst (.int 0)))) (tupM (aCons (rd 0) (aCons (rd 1) aNil))) (tupM (aCons (rd 1) (aCons (rd 0) aNil)))) [.val (.ref p), .val (.ref q), .val (.int 0), .un, .un] st = some (.nx [.val (.ref p), .val (.ref q), .val (.int 0), .val (.ref p), .val (.ref q)], st) := by
    have t := Lh.eq_int (f := rd 2) (h := cst (.int 0)) (env := [.val (.ref p), .val (.ref q), .val (.int 0), .un, .un]) (st := st) (s1 := st) (s2 := st) (i := 0) (j := 0) rfl rfl
    rw [decide_eq_true rfl] at t
    rw [v_asgM, Lc.if_t t (Lh.tup2 (f := rd 0) (h := rd 1) (s1 := st) rfl rfl)]
    rfl
  let E : Sg := [.val (.ref p), .val (.ref q), .val (.int 0), .val (.ref p), .val (.ref q)]
  have t2 := Lh.lt_of (f := cbM lenA (aCons (rd 3) aNil)) (h := opM subM (cst (.int 2)) (rd 2)) (env := E) (st := st) (s1 := st) (s2 := st) (lenR (g := rd 3) rfl hp) (intsub (f := cst (.int 2)) (h := rd 2) (s1 := st) (i := 2) (j := 0) rfl rfl)
  have t3 := Lh.eq_int (f := rd 2) (h := cst (.int 0)) (env := E) (st := st) (s1 := st) (s2 := st) (i := 0) (j := 0) rfl rfl
  rw [decide_eq_true rfl] at t3
  rw [List.length_cons, List.length_map] at t2
  rcases List.eq_nil_or_concat sd with h0 | ⟨sd', x, h0⟩
  · refine .inl ⟨h0, Lm.run_of ?_⟩
    show b__law_backed [.val (.ref p), .val (.ref q), .val (.int 0), .un, .un] st = _
    rw [b_bd, Lm.seq_nx e1]
    rw [decide_eq_true (by rw [h0]; decide)] at t2
    refine Lm.seq_rt (Lm.ifs_t t2 ?_)
    exact Lm.ret_of (Lm.lst_of (Lm.cons_of (Lc.if_t t3 (show cst (.str "NothingToUndo") E st = some (.str "NothingToUndo", st) from rfl)) v_aNil) (by simp))
  · rw [List.concat_eq_append] at h0
    subst h0
    refine .inr ⟨sd', x, rfl, Lm.run_of ?_⟩
    show b__law_backed [.val (.ref p), .val (.ref q), .val (.int 0), .un, .un] st = _
    rw [b_bd, Lm.seq_nx e1]
    rw [List.length_append] at hl
    rw [decide_eq_false (by rw [List.length_append]; simp; omega)] at t2
    rw [Lm.seq_nx (e := E) (Lm.ifs_f t2 v_nxM)]
    have hp' : st.ob[p]? = some (.lst ((hdS c0 :: sd'.map enD) ++ [enD x])) := by rw [hp, List.map_append]; rfl
    have a := sappX (fo := rd 4) (env := E) hq rfl (spop_of (fo := rd 3) (env := E) hp' rfl) (put_ne hq hne) (by rw [List.length_map]; omega)
    rw [Lm.seq_nx (e := E) a]
    have hpp : ((st.put p (.lst (hdS c0 :: sd'.map enD))).put q (.lst (ud.map enD ++ [enD x]))).ob[p]? = some (.lst (hdS c0 :: sd'.map enD)) := put_ne (put_at hp) (fun z => hne z.symm)
    have l := intsub (h := cst (.int 1)) (s2 := (st.put p (.lst (hdS c0 :: sd'.map enD))).put q (.lst (ud.map enD ++ [enD x]))) (j := 1) (lenR (g := rd 0) (env := E) rfl hpp) rfl
    rw [List.length_cons, List.length_map, show (((sd'.length + 1 : Nat) : Int) - 1) = ((sd'.length : Nat) : Int) by omega] at l
    rw [List.map_append]
    exact Lm.ret_of (Lm.lst_of (Lm.cons_of (f := cst (.str "ok")) (s1 := (st.put p (.lst (hdS c0 :: sd'.map enD))).put q (.lst (ud.map enD ++ [enD x]))) rfl (Lm.cons_of l v_aNil)) (by simp))
theorem backed1 : (ud = [] ∧ m__law_backed [.ref p, .ref q, .int 1] st = some (.lst [.str "NothingToRedo"], st)) ∨
    ∃ ud' x, ud = ud' ++ [x] ∧ m__law_backed [.ref p, .ref q, .int 1] st = some (.lst [.str "ok", nD (sd.length + 1)], (st.put q (.lst (ud'.map enD))).put p (.lst (hdS c0 :: (sd ++ [x]).map enD))) := by
  have e1 : asgM (tupT 2 (consT (nameT 3) (consT (nameT 4) nilT))) (ifM (tstM (opM eqM (rd 2) (cst (.int 0)))) (tupM (aCons (rd 0) (aCons (rd 1) aNil))) (tupM (aCons (rd 1) (aCons (rd 0) aNil)))) [.val (.ref p), .val (.ref q), .val (.int 1), .un, .un] st = some (.nx [.val (.ref p), .val (.ref q), .val (.int 1), .val (.ref q), .val (.ref p)], st) := by
    have t := Lh.eq_int (f := rd 2) (h := cst (.int 0)) (env := [.val (.ref p), .val (.ref q), .val (.int 1), .un, .un]) (st := st) (s1 := st) (s2 := st) (i := 1) (j := 0) rfl rfl
    rw [decide_eq_false (by decide)] at t
    rw [v_asgM, Lc.if_f t (Lh.tup2 (f := rd 1) (h := rd 0) (s1 := st) rfl rfl)]
    rfl
  let E : Sg := [.val (.ref p), .val (.ref q), .val (.int 1), .val (.ref q), .val (.ref p)]
  have t2 := Lh.lt_of (f := cbM lenA (aCons (rd 3) aNil)) (h := opM subM (cst (.int 2)) (rd 2)) (env := E) (st := st) (s1 := st) (s2 := st) (lenR (g := rd 3) rfl hq) (intsub (f := cst (.int 2)) (h := rd 2) (s1 := st) (i := 2) (j := 1) rfl rfl)
  have t3 := Lh.eq_int (f := rd 2) (h := cst (.int 0)) (env := E) (st := st) (s1 := st) (s2 := st) (i := 1) (j := 0) rfl rfl
  rw [decide_eq_false (by decide)] at t3
  rw [List.length_map] at t2
  rcases List.eq_nil_or_concat ud with h0 | ⟨ud', x, h0⟩
  · refine .inl ⟨h0, Lm.run_of ?_⟩
    show b__law_backed [.val (.ref p), .val (.ref q), .val (.int 1), .un, .un] st = _
    rw [b_bd, Lm.seq_nx e1]
    rw [decide_eq_true (by rw [h0]; decide)] at t2
    refine Lm.seq_rt (Lm.ifs_t t2 ?_)
    exact Lm.ret_of (Lm.lst_of (Lm.cons_of (Lc.if_f t3 (show cst (.str "NothingToRedo") E st = some (.str "NothingToRedo", st) from rfl)) v_aNil) (by simp))
  · rw [List.concat_eq_append] at h0
    subst h0
    refine .inr ⟨ud', x, rfl, Lm.run_of ?_⟩
    show b__law_backed [.val (.ref p), .val (.ref q), .val (.int 1), .un, .un] st = _
    rw [b_bd, Lm.seq_nx e1]
    rw [List.length_append] at hl
    rw [decide_eq_false (by rw [List.length_append]; simp; omega)] at t2
    rw [Lm.seq_nx (e := E) (Lm.ifs_f t2 v_nxM)]
    have hq' : st.ob[q]? = some (.lst (ud'.map enD ++ [enD x])) := by rw [hq, List.map_append]; rfl
    have a := sappX (fo := rd 4) (env := E) hp rfl (spop_of (fo := rd 3) (env := E) hq' rfl) (put_ne hp (fun z => hne z.symm)) (by rw [List.length_cons, List.length_map]; omega)
    rw [Lm.seq_nx (e := E) a]
    have hpp : ((st.put q (.lst (ud'.map enD))).put p (.lst (hdS c0 :: sd.map enD ++ [enD x]))).ob[p]? = some (.lst (hdS c0 :: sd.map enD ++ [enD x])) := put_at (put_ne hp (fun z => hne z.symm))
    have l := intsub (h := cst (.int 1)) (s2 := (st.put q (.lst (ud'.map enD))).put p (.lst (hdS c0 :: sd.map enD ++ [enD x]))) (j := 1) (lenR (g := rd 0) (env := E) rfl hpp) rfl
    rw [List.length_append, List.length_cons, List.length_map, show (((sd.length + 1 + [enD x].length : Nat) : Int) - 1) = ((sd.length + 1 : Nat) : Int) by simp] at l
    rw [List.map_append]
    exact Lm.ret_of (Lm.lst_of (Lm.cons_of (f := cst (.str "ok")) (s1 := (st.put q (.lst (ud'.map enD))).put p (.lst (hdS c0 :: sd.map enD ++ [enD x]))) rfl (Lm.cons_of l v_aNil)) (by simp))
end
end Lw
set_option Elab.async false
set_option linter.all false
set_option maxRecDepth 100000
set_option maxHeartbeats 4000000
namespace Lw
open PySem MD L2 Lc
variable {ww : WW}
theorem endR {g : ME} {env : Sg} {st : S} {p : Nat} {ds : List D} {d : D} (h : g env st = some (.ref p, st)) (hp : st.ob[p]? = some (.lst (ds ++ [d]))) : opM subD g (unM (unI fun i => .int (-i)) (cst (.int 1))) env st = some (d, st) := by
  rw [v_opM, h, Option.bind_some]
  show ((subD (dr st (.ref p)) (dr st (.int (-1)))).map fun z => (z, st)) = _
  have e : dr st (.ref p) = .lst (ds ++ [d]) := by
    show (match st.ob[p]? with | some (.lst ds) => D.lst ds | some (.dic _ ks ds) => D.dic ks ds | _ => D.ref p) = _
    rw [hp]
  rw [e]
  show ((subD (.lst (ds ++ [d])) (.int (-1))).map fun z => (z, st)) = _
  rw [v_subL, v_ixL, atI_end]; rfl
theorem last_split (c0 : List D) (sd : List (D × List D)) : ∃ ds y, hdS c0 :: sd.map enD = ds ++ [.tup [y, .tup (csOf c0 sd)]] := by
  rcases List.eq_nil_or_concat sd with rfl | ⟨sd', x, rfl⟩
  · exact ⟨[], .non, rfl⟩
  · refine ⟨hdS c0 :: sd'.map enD, x.1, ?_⟩
    have : csOf c0 (sd'.concat x) = x.2 := by
      unfold csOf
      rw [List.concat_eq_append, List.getLast?_append]; rfl
    rw [this, List.concat_eq_append, List.map_append]; rfl
structure Iv (st : S) (p q n : Nat) (b : Bn) (k : Nat) (us : List D) (t : Nat) : Prop where
  hn : st.ob[n]? = some (bO b)
  ok : BnOk b k us
  cs : b.cs = csOf b.c0 b.sd
  hp : st.ob[p]? = some (.lst (hdS b.c0 :: b.sd.map enD))
  hq : st.ob[q]? = some (.lst (b.ud.map enD))
  ne : p ≠ q
  c0 : Cz k us.length b.c0
  al : ∀ x ∈ b.sd ++ b.ud, Cz k us.length x.2 ∧ Nice (enD x) ∧ Gd x.1 2 60
  ln : b.sd.length + b.ud.length ≤ t
theorem cz_csOf {k U : Nat} {c0 : List D} {sd : List (D × List D)} (h0 : Cz k U c0) (h : ∀ x ∈ sd, Cz k U x.2) : Cz k U (csOf c0 sd) := by
  unfold csOf
  cases e : sd.getLast? with
  | none => exact h0
  | some x => exact h x (List.mem_of_getLast? e)
theorem Iv.mono {st s1 : S} {p q n : Nat} {b : Bn} {k : Nat} {us : List D} {t t' : Nat} (h : Iv st p q n b k us t) (ho : s1.ob = st.ob) (ht : t ≤ t') : Iv s1 p q n b k us t' := ⟨by rw [ho]; exact h.hn, h.ok, h.cs, by rw [ho]; exact h.hp, by rw [ho]; exact h.hq, h.ne, h.c0, h.al, Nat.le_trans h.ln ht⟩
theorem ob_ne {st : S} {i j : Nat} {ds : List D} {b : Bn} (h1 : st.ob[i]? = some (.lst ds)) (h2 : st.ob[j]? = some (bO b)) : i ≠ j := fun z => by
  subst z
  rw [h1] at h2
  cases h2
theorem ed_gdok {k U : Nat} (hk : k ≤ 4) (hU : U ≤ 2) {cs ds : List D} (hc : Cz k U cs) {e : Ed} (h : due k U cs e = .ok ds) : Gd e.d 2 60 := by
  obtain ⟨ha, hz⟩ := due_in h
  have h3 := hc.n3
  have two : ∀ {w : Str} {d : D}, w.cps.toList.all (fun c => decide (c < 16 ^ 8)) = true → w.cps.size ≤ 10 → Gd d 1 7 → Gd (.tup [.str w, d]) 2 60 := fun hw hw2 hd =>
    (Gd.tup (Gds.cons ((gd_s hw hw2).mono (Nat.zero_le 1) (Nat.le_refl _)) (Gds.cons hd (Gds.nil (b := 0))))).mono (by decide) (by decide)
  have three : ∀ {w : Str} {d d' : D}, w.cps.toList.all (fun c => decide (c < 16 ^ 8)) = true → w.cps.size ≤ 10 → Gd d 1 7 → Gd d' 1 7 → Gd (.tup [.str w, d, d']) 2 60 := fun hw hw2 hd hd' =>
    (Gd.tup (Gds.cons ((gd_s hw hw2).mono (Nat.zero_le 1) (Nat.le_refl _)) (Gds.cons hd (Gds.cons hd' (Gds.nil (b := 0)))))).mono (by decide) (by decide)
  have ix : ∀ {i : Nat}, i < cs.length → Gd (nD i) 1 7 := fun hi => (Gd.nat (by omega)).mono (Nat.zero_le 1) (Nat.zero_le 7)
  cases e with
  | add v =>
    cases ha
    exact two (by decide +kernel) (by decide +kernel) (isC_gd hk hU (hz.ok v (by simp)))
  | drop v =>
    obtain ⟨i, hi, rfl, _⟩ := at_in ha
    exact two (by decide +kernel) (by decide +kernel) (ix hi)
  | lift v =>
    obtain ⟨i, hi, rfl, _⟩ := at_in ha
    exact two (by decide +kernel) (by decide +kernel) (ix hi)
  | change v c =>
    obtain ⟨i, hi, rfl, rfl⟩ := at_in ha
    exact three (by decide +kernel) (by decide +kernel) (ix hi) (isC_gd hk hU (hz.ok c (by unfold put; simp)))
  | allow v m =>
    obtain ⟨i, hi, rfl, rfl⟩ := at_in ha
    obtain ⟨a, b, c, _, hg, _⟩ := cz_at hc hi
    have := hz.ok (.tup [a, m, c]) (by rw [hg]; unfold put allowed; simp)
    obtain ⟨u, q, ws, e1, _, hq, _⟩ := isC_form this
    cases e1
    exact three (by decide +kernel) (by decide +kernel) (ix hi) ((Gd.nat (by omega)).mono (Nat.zero_le 1) (Nat.zero_le 7))
noncomputable abbrev envQ8 (K U : D) (x4 : Sl) (p q n : Nat) (sh : D) (x9 x10 x11 x12 x13 x14 x15 x16 x17 x18 : Sl) : Sg := [.un, .val .deck, .val K, .val U, x4, .val (.ref p), .val (.ref q), .val (.ref n), .val sh, x9, x10, x11, x12, x13, x14, x15, x16, x17, x18]
noncomputable def itB : MS := (seqM (asgM (nameT 13) (ifM (truM (callM m__law_is_number (aCons (rd 12) (aCons (cst (.int 0)) (aCons (opM subM (rd 11) (cst (.int 1))) aNil))))) (frz (lstM (aCons (cst (.str "ok")) (aCons (opM subD (rd 10) (rd 12)) aNil)))) (frz (lstM (aCons (cst (.str "NoCut")) (aCons (rd 12) aNil))))))
 (ifS (tstM (opM neM (cbM reprQ (aCons (callM m__law_got (aCons (rd 7) (aCons (rd 12) aNil))) aNil)) (cbM reprQ (aCons (rd 13) aNil))))
 (retM (cst (.bl false)))
 nxM))
section
variable {st : S} {p q n : Nat} {b : Bn} {k : Nat} {us : List D} {t : Nat} {K U sh : D} {x4 x9 x10 x11 x12 x13 x14 x15 x16 x17 x18 : Sl}
theorem gd_got {cs : List D} (hk : k ≤ 4) (hU : us.length ≤ 2) (hc : Cz k us.length cs) {v : D} (hv : Gd v 3 400) : Gd (gotD cs v) 4 420 := by
  unfold gotD
  cases hw : whole v cs.length with
  | none => exact (gd_l2 (by decide +kernel) (by decide +kernel) hv).mono (by decide) (by decide)
  | some i =>
    have hi := (whole_lt hw).1
    have e : cs.getD i .non = cs[i] := by rw [List.getD_eq_getElem?_getD, List.getElem?_eq_getElem hi]; rfl
    dsimp only
    rw [e]
    exact (gd_l2 (by decide +kernel) (by decide +kernel) (isC_gd hk hU (hc.ok _ (List.getElem_mem hi)))).mono (by decide) (by decide)
theorem it_one (iv : Iv st p q n b k us t) {v : D} (hv : Gd v 3 400) : ∃ y13, itB (envQ8 K U x4 p q n sh x9 (.val (.tup b.cs)) (.val (nD b.cs.length)) (.val v) x13 x14 x15 x16 x17 x18) st = some (.nx (envQ8 K U x4 p q n sh x9 (.val (.tup b.cs)) (.val (nD b.cs.length)) (.val v) y13 x14 x15 x16 x17 x18), st) := by
  refine ⟨.val (gotD b.cs v), ?_⟩
  let E : Sg := envQ8 K U x4 p q n sh x9 (.val (.tup b.cs)) (.val (nD b.cs.length)) (.val v) x13 x14 x15 x16 x17 x18
  let E' : Sg := envQ8 K U x4 p q n sh x9 (.val (.tup b.cs)) (.val (nD b.cs.length)) (.val v) (.val (gotD b.cs v)) x14 x15 x16 x17 x18
  have c1 := Lm.call_of (env := E) (Lm.cons_of (f := rd 12) (s1 := st) rfl (Lm.cons_of (f := cst (.int 0)) (d := .int 0) (s1 := st) rfl (Lm.cons_of (intsub (f := rd 11) (h := cst (.int 1)) (s1 := st) (s2 := st) (i := ((b.cs.length : Nat) : Int)) (j := 1) rfl rfl) v_aNil))) (intq_law hv.g.ql 0 (((b.cs.length : Nat) : Int) - 1) st)
  have t1 := Lh.tru_of c1
  rw [← whole_in v b.cs.length] at t1
  have a1 : asgM (nameT 13) (ifM (truM (callM m__law_is_number (aCons (rd 12) (aCons (cst (.int 0)) (aCons (opM subM (rd 11) (cst (.int 1))) aNil))))) (frz (lstM (aCons (cst (.str "ok")) (aCons (opM subD (rd 10) (rd 12)) aNil)))) (frz (lstM (aCons (cst (.str "NoCut")) (aCons (rd 12) aNil))))) E st = some (.nx E', st) := by
    refine Lm.asg_nx (d := gotD b.cs v) ?_
    unfold gotD
    cases hw : whole v b.cs.length with
    | none =>
      rw [hw] at t1
      exact Lc.if_f t1 (Lm.lst_of (Lm.cons_of (f := cst (.str "NoCut")) (s1 := st) rfl (Lm.cons_of (f := rd 12) (s1 := st) rfl v_aNil)) (by simp))
    | some i =>
      rw [hw] at t1
      obtain ⟨hi, hvi⟩ := whole_lt hw
      have e : b.cs.getD i .non = b.cs[i] := by rw [List.getD_eq_getElem?_getD, List.getElem?_eq_getElem hi]; rfl
      have hv2 : rd 12 E st = some (nD i, st) := by rw [← hvi]; rfl
      have s1 : opM subD (rd 10) (rd 12) E st = some (b.cs.getD i .non, st) := by
        rw [e]
        exact Lh.sub_tup (f := rd 10) (h := rd 12) (s1 := st) (ds := b.cs) rfl hv2 (L2.atI_nat (List.getElem?_eq_getElem hi))
      exact Lc.if_t t1 (Lm.lst_of (Lm.cons_of (f := cst (.str "ok")) (s1 := st) rfl (Lm.cons_of s1 v_aNil)) (by simp))
  have g1 := Lm.call_of (env := E') (Lm.cons_of (f := rd 7) (s1 := st) rfl (Lm.cons_of (f := rd 12) (s1 := st) rfl v_aNil)) (got_ok iv.hn hv.g.ql)
  have r1 := repr_ne (h := rd 13) (s2 := st) g1 rfl (gd_got iv.ok.k4 iv.ok.u2 iv.ok.cz hv) (by decide) (by decide)
  show itB E st = some (.nx E', st)
  unfold itB
  rw [Lm.seq_nx a1]
  exact Lm.ifs_f r1 v_nxM
theorem it_loop : ∀ (vs : List D) (x12 x13 : Sl), Iv st p q n b k us t → (∀ v ∈ vs, Gd v 3 400) → ∃ y12 y13, forL (nameT 12) itB vs (envQ8 K U x4 p q n sh x9 (.val (.tup b.cs)) (.val (nD b.cs.length)) x12 x13 x14 x15 x16 x17 x18) st = some (.nx (envQ8 K U x4 p q n sh x9 (.val (.tup b.cs)) (.val (nD b.cs.length)) y12 y13 x14 x15 x16 x17 x18), st)
  | [], x12, x13, _, _ => ⟨x12, x13, rfl⟩
  | v :: vs, x12, x13, iv, h => by
    obtain ⟨y13, e1⟩ := it_one (K := K) (U := U) (sh := sh) (x4 := x4) (x9 := x9) (x13 := x13) (x14 := x14) (x15 := x15) (x16 := x16) (x17 := x17) (x18 := x18) iv (h v List.mem_cons_self)
    obtain ⟨z12, z13, e2⟩ := it_loop vs (.val v) y13 iv fun w hw => h w (List.mem_cons_of_mem _ hw)
    refine ⟨z12, z13, ?_⟩
    have et : nameT 12 v (envQ8 K U x4 p q n sh x9 (.val (.tup b.cs)) (.val (nD b.cs.length)) x12 x13 x14 x15 x16 x17 x18) = some (envQ8 K U x4 p q n sh x9 (.val (.tup b.cs)) (.val (nD b.cs.length)) (.val v) x13 x14 x15 x16 x17 x18) := rfl
    rw [v_forL, et, Option.bind_some, e1, Option.bind_some]
    exact e2
end
end Lw
set_option Elab.async false
set_option linter.all false
set_option maxRecDepth 100000
set_option maxHeartbeats 4000000
namespace Lw
open PySem MD L2 Lc
variable {ww : WW}
noncomputable def edB : MS := (seqM (parM 13 16 (aCons (callM m__law_due (aCons (rd 8) (aCons (rd 10) (aCons (rd 14) aNil)))) (aCons (callM m__law_by_item (aCons (rd 7) (aCons (rd 14) aNil))) aNil)))
 (ifS (tstM (opM eqM (opM subD (rd 13) (cst (.int 0))) (cst (.str "ok"))))
 (seqM (sappM (rd 5) (tupM (aCons (rd 14) (aCons (opM subD (rd 13) (cst (.int 1))) aNil))))
 (par2 13 6 (xV (frz (lstM (aCons (cst (.str "ok")) (aCons (opM subM (cbM lenA (aCons (rd 5) aNil)) (cst (.int 1))) aNil))))) (xV (stoL (lstM aNil)))))
 nxM))
noncomputable def waB : MS := (ifS (tstM (opM ltA (rd 15) (cst (.int 2))))
 (parM 13 16 (aCons (callM m__law_backed (aCons (rd 5) (aCons (rd 6) (aCons (rd 15) aNil)))) (aCons (callM m__law_back (aCons (rd 7) (aCons (opM subD (frz (lstM (aCons (cst (.str "undo")) (aCons (cst (.str "redo")) aNil)))) (rd 15)) aNil))) aNil)))
 (ifS (tstM (opM (cntD false) (opM subD (rd 14) (cst (.int 0))) (frz (lstM (aCons (cst (.str "add")) (aCons (cst (.str "drop")) (aCons (cst (.str "change")) aNil)))))))
 edB
 (parM 13 16 (aCons (frz (lstM aNil)) (aCons (frz (lstM aNil)) aNil)))))
section
variable {st : S} {p q n : Nat} {b : Bn} {k : Nat} {us : List D} {t : Nat} {K U : D} {x4 x9 x10 x11 x12 x13 x16 x17 x18 : Sl}
/-- undo -/
theorem wa_undo (iv : Iv st p q n b k us t) (ht : t ≤ 900) : ∃ q' b' s' R, waB (envQ8 K U x4 p q n (.tup [nD k, .tup us]) x9 (.val (.tup b.cs)) x11 x12 x13 x10 (.val (nD 0)) x16 x17 x18) st = some (.nx (envQ8 K U x4 p q' n (.tup [nD k, .tup us]) x9 (.val (.tup b.cs)) x11 x12 (.val R) x10 (.val (nD 0)) (.val R) x17 x18), s') ∧ Gd R 4 420 ∧ Iv s' p q' n b' k us (t + 1) ∧ s'.n = st.n := by
  let E : Sg := envQ8 K U x4 p q n (.tup [nD k, .tup us]) x9 (.val (.tup b.cs)) x11 x12 x13 x10 (.val (nD 0)) x16 x17 x18
  have hln := iv.ln
  have hsn : ∀ x ∈ b.sd, Nice (enD x) := iv.ok.sn
  have t0 := Lh.lt_of (f := rd 15) (h := cst (.int 2)) (env := E) (st := st) (s1 := st) (s2 := st) (i := 0) (j := 2) rfl rfl
  rw [decide_eq_true (by decide)] at t0
  have w0 : ∀ s : S, opM subD (frz (lstM (aCons (cst (.str "undo")) (aCons (cst (.str "redo")) aNil)))) (rd 15) E s = some (.str "undo", s) := fun s =>
    Lh.sub_of (x := .lst [.str "undo", .str "redo"]) (y := .int 0) (Lm.lst_of (Lm.cons_of (f := cst (.str "undo")) (s1 := s) rfl (Lm.cons_of (f := cst (.str "redo")) (s1 := s) rfl v_aNil)) (by simp)) rfl (fun s => dr_lst s _) (fun s => rfl) rfl
  rcases backed0 iv.hp iv.hq iv.ne (by omega) with ⟨h0, e1⟩ | ⟨sd', x, h0, e1⟩
  · rcases back_undo iv.hn iv.ok.w hsn (by omega) with ⟨_, e2⟩ | ⟨sd2, y, h1, _⟩
    · refine ⟨q, b, st, .lst [.str "NothingToUndo"], ?_, ?_, iv.mono rfl (Nat.le_succ t), rfl⟩
      · unfold waB
        exact Lm.ifs_t t0 (Lm.par_nx (Lm.cons_of (Lm.call_of (Lm.cons_of (f := rd 5) (s1 := st) rfl (Lm.cons_of (f := rd 6) (s1 := st) rfl (Lm.cons_of (f := rd 15) (s1 := st) rfl v_aNil))) e1) (Lm.cons_of (Lm.call_of (Lm.cons_of (f := rd 7) (s1 := st) rfl (Lm.cons_of (w0 st) v_aNil)) e2) v_aNil)))
      · exact (Gd.lst (Gds.cons (Gd.str (b := 20) (by decide +kernel) (by decide +kernel)) (Gds.nil (b := 0)))).mono (by decide) (by decide)
    · rw [h0] at h1; simp at h1
  · obtain ⟨s1, hs1⟩ : ∃ s1, s1 = (st.put p (.lst (hdS b.c0 :: sd'.map enD))).put q (.lst ((b.ud ++ [x]).map enD)) := ⟨_, rfl⟩
    rw [← hs1] at e1
    have npn := ob_ne iv.hp iv.hn
    have nqn := ob_ne iv.hq iv.hn
    have hn1 : s1.ob[n]? = some (bO b) := by rw [hs1]; exact put_ne (put_ne iv.hn npn) nqn
    rcases back_undo hn1 iv.ok.w hsn (by omega) with ⟨h1, _⟩ | ⟨sd2, y, h1, e2⟩
    · rw [h0] at h1; simp at h1
    · have hh := h0.symm.trans h1
      obtain ⟨rfl, hxy⟩ := List.append_inj' hh rfl
      cases hxy
      obtain ⟨b', hb'⟩ : ∃ b' : Bn, b' = { b with sd := sd', ud := b.ud ++ [x], cs := csOf b.c0 sd' } := ⟨_, rfl⟩
      rw [← hb'] at e2
      have al' : ∀ z ∈ sd' ++ (b.ud ++ [x]), Cz k us.length z.2 ∧ Nice (enD z) ∧ Gd z.1 2 60 := fun z hz => by
        refine iv.al z ?_
        rw [h0]
        simp only [List.mem_append, List.mem_singleton] at hz ⊢
        rcases hz with z | z | z
        · exact .inl (.inl z)
        · exact .inr z
        · exact .inl (.inr z)
      refine ⟨q, b', s1.put n (bO b'), .lst [.str "ok", nD sd'.length], ?_, ?_, ⟨put_at hn1, ?_, ?_, ?_, ?_, iv.ne, ?_, ?_, ?_⟩, ?_⟩
      · unfold waB
        exact Lm.ifs_t t0 (Lm.par_nx (Lm.cons_of (Lm.call_of (Lm.cons_of (f := rd 5) (s1 := st) rfl (Lm.cons_of (f := rd 6) (s1 := st) rfl (Lm.cons_of (f := rd 15) (s1 := st) rfl v_aNil))) e1) (Lm.cons_of (Lm.call_of (Lm.cons_of (f := rd 7) (s1 := s1) rfl (Lm.cons_of (w0 s1) v_aNil)) e2) v_aNil)))
      · rw [h0, List.length_append] at hln
        exact (gd_l2 (by decide +kernel) (by decide +kernel) (Gd.nat (by omega))).mono (by decide) (by decide)
      · rw [hb']
        exact ⟨iv.ok.k4, iv.ok.u2, iv.ok.K, iv.ok.U, cz_csOf iv.c0 (fun z hz => (al' z (List.mem_append.mpr (.inl hz))).1), iv.ok.w, fun z hz => (al' z (List.mem_append.mpr (.inl hz))).2.1⟩
      · rw [hb']
      · rw [hb', hs1]; exact put_ne (put_ne (put_at iv.hp) (fun z => iv.ne z.symm)) (fun z => npn z.symm)
      · rw [hb', hs1]; exact put_ne (put_at (put_ne iv.hq iv.ne)) (fun z => nqn z.symm)
      · rw [hb']; exact iv.c0
      · rw [hb']; exact al'
      · rw [hb']
        rw [h0, List.length_append] at hln
        show sd'.length + (b.ud ++ [x]).length ≤ _
        rw [List.length_append]; simp at hln ⊢; omega
      · rw [hs1]; rfl
/-- redo -/
theorem wa_redo (iv : Iv st p q n b k us t) (ht : t ≤ 900) : ∃ q' b' s' R, waB (envQ8 K U x4 p q n (.tup [nD k, .tup us]) x9 (.val (.tup b.cs)) x11 x12 x13 x10 (.val (nD 1)) x16 x17 x18) st = some (.nx (envQ8 K U x4 p q' n (.tup [nD k, .tup us]) x9 (.val (.tup b.cs)) x11 x12 (.val R) x10 (.val (nD 1)) (.val R) x17 x18), s') ∧ Gd R 4 420 ∧ Iv s' p q' n b' k us (t + 1) ∧ s'.n = st.n := by
  let E : Sg := envQ8 K U x4 p q n (.tup [nD k, .tup us]) x9 (.val (.tup b.cs)) x11 x12 x13 x10 (.val (nD 1)) x16 x17 x18
  have hln := iv.ln
  have hsn : ∀ x ∈ b.sd, Nice (enD x) := iv.ok.sn
  have hun : ∀ x ∈ b.ud, Nice (enD x) := fun x hx => (iv.al x (List.mem_append.mpr (.inr hx))).2.1
  have t0 := Lh.lt_of (f := rd 15) (h := cst (.int 2)) (env := E) (st := st) (s1 := st) (s2 := st) (i := 1) (j := 2) rfl rfl
  rw [decide_eq_true (by decide)] at t0
  have w0 : ∀ s : S, opM subD (frz (lstM (aCons (cst (.str "undo")) (aCons (cst (.str "redo")) aNil)))) (rd 15) E s = some (.str "redo", s) := fun s =>
    Lh.sub_of (x := .lst [.str "undo", .str "redo"]) (y := .int 1) (Lm.lst_of (Lm.cons_of (f := cst (.str "undo")) (s1 := s) rfl (Lm.cons_of (f := cst (.str "redo")) (s1 := s) rfl v_aNil)) (by simp)) rfl (fun s => dr_lst s _) (fun s => rfl) rfl
  rcases backed1 iv.hp iv.hq iv.ne (by omega) with ⟨h0, e1⟩ | ⟨ud', x, h0, e1⟩
  · rcases back_redo iv.hn iv.ok.w hsn hun (by omega) with ⟨_, e2⟩ | ⟨sd2, y, h1, _⟩
    · refine ⟨q, b, st, .lst [.str "NothingToRedo"], ?_, ?_, iv.mono rfl (Nat.le_succ t), rfl⟩
      · unfold waB
        exact Lm.ifs_t t0 (Lm.par_nx (Lm.cons_of (Lm.call_of (Lm.cons_of (f := rd 5) (s1 := st) rfl (Lm.cons_of (f := rd 6) (s1 := st) rfl (Lm.cons_of (f := rd 15) (s1 := st) rfl v_aNil))) e1) (Lm.cons_of (Lm.call_of (Lm.cons_of (f := rd 7) (s1 := st) rfl (Lm.cons_of (w0 st) v_aNil)) e2) v_aNil)))
      · exact (Gd.lst (Gds.cons (Gd.str (b := 20) (by decide +kernel) (by decide +kernel)) (Gds.nil (b := 0)))).mono (by decide) (by decide)
    · rw [h0] at h1; simp at h1
  · obtain ⟨s1, hs1⟩ : ∃ s1, s1 = (st.put q (.lst (ud'.map enD))).put p (.lst (hdS b.c0 :: (b.sd ++ [x]).map enD)) := ⟨_, rfl⟩
    rw [← hs1] at e1
    have npn := ob_ne iv.hp iv.hn
    have nqn := ob_ne iv.hq iv.hn
    have hn1 : s1.ob[n]? = some (bO b) := by rw [hs1]; exact put_ne (put_ne iv.hn nqn) npn
    rcases back_redo hn1 iv.ok.w hsn hun (by omega) with ⟨h1, _⟩ | ⟨ud2, y, h1, e2⟩
    · rw [h0] at h1; simp at h1
    · have hh := h0.symm.trans h1
      obtain ⟨rfl, hxy⟩ := List.append_inj' hh rfl
      cases hxy
      obtain ⟨b', hb'⟩ : ∃ b' : Bn, b' = { b with sd := b.sd ++ [x], ud := ud', cs := x.2 } := ⟨_, rfl⟩
      rw [← hb'] at e2
      have al' : ∀ z ∈ (b.sd ++ [x]) ++ ud', Cz k us.length z.2 ∧ Nice (enD z) ∧ Gd z.1 2 60 := fun z hz => by
        refine iv.al z ?_
        rw [h0]
        simp only [List.mem_append, List.mem_singleton] at hz ⊢
        rcases hz with (z | z) | z
        · exact .inl z
        · exact .inr (.inr z)
        · exact .inr (.inl z)
      have hx := al' x (by simp)
      refine ⟨q, b', s1.put n (bO b'), .lst [.str "ok", nD (b.sd.length + 1)], ?_, ?_, ⟨put_at hn1, ?_, ?_, ?_, ?_, iv.ne, ?_, ?_, ?_⟩, ?_⟩
      · unfold waB
        exact Lm.ifs_t t0 (Lm.par_nx (Lm.cons_of (Lm.call_of (Lm.cons_of (f := rd 5) (s1 := st) rfl (Lm.cons_of (f := rd 6) (s1 := st) rfl (Lm.cons_of (f := rd 15) (s1 := st) rfl v_aNil))) e1) (Lm.cons_of (Lm.call_of (Lm.cons_of (f := rd 7) (s1 := s1) rfl (Lm.cons_of (w0 s1) v_aNil)) e2) v_aNil)))
      · exact (gd_l2 (by decide +kernel) (by decide +kernel) (Gd.nat (by omega))).mono (by decide) (by decide)
      · rw [hb']
        exact ⟨iv.ok.k4, iv.ok.u2, iv.ok.K, iv.ok.U, hx.1, iv.ok.w, fun z hz => (al' z (List.mem_append.mpr (.inl hz))).2.1⟩
      · rw [hb']
        show x.2 = csOf b.c0 (b.sd ++ [x])
        unfold csOf
        rw [List.getLast?_append]; rfl
      · rw [hb', hs1]; exact put_ne (put_at (put_ne iv.hp (fun z => iv.ne z.symm))) (fun z => npn z.symm)
      · rw [hb', hs1]; exact put_ne (put_ne (put_at iv.hq) iv.ne) (fun z => nqn z.symm)
      · rw [hb']; exact iv.c0
      · rw [hb']; exact al'
      · rw [hb']
        rw [h0, List.length_append] at hln
        show (b.sd ++ [x]).length + ud'.length ≤ _
        rw [List.length_append]; simp at hln ⊢; omega
      · rw [hs1]; rfl
theorem subL_str {g : ME} {env : Sg} {s : S} {w : Str} {d : D} (h : g env s = some (.lst [.str w, d], s)) : opM subD g (cst (.int 0)) env s = some (.str w, s) := Lh.sub_of (x := .lst [.str w, d]) (y := .int 0) h rfl (fun s => dr_lst s _) (fun s => rfl) rfl
theorem subL_two {g : ME} {env : Sg} {s : S} {w : Str} {d : D} (h : g env s = some (.lst [.str w, d], s)) : opM subD g (cst (.int 1)) env s = some (d, s) := Lh.sub_of (x := .lst [.str w, d]) (y := .int 1) h rfl (fun s => dr_lst s _) (fun s => rfl) rfl
/-- an edit by an item or an operator -/
theorem ed_ok (iv : Iv st p q n b k us t) (ht : t ≤ 50) {e : Ed} (he : e.gd) (h3 : Ed3 e) (r : D) : ∃ q' b' s' R, edB (envQ8 K U x4 p q n (.tup [nD k, .tup us]) x9 (.val (.tup b.cs)) x11 x12 x13 (.val e.d) (.val r) x16 x17 x18) st = some (.nx (envQ8 K U x4 p q' n (.tup [nD k, .tup us]) x9 (.val (.tup b.cs)) x11 x12 (.val R) (.val e.d) (.val r) (.val R) x17 x18), s') ∧ Gd R 4 420 ∧ Iv s' p q' n b' k us (t + 1) ∧ s'.n = st.n := by
  let E : Sg := envQ8 K U x4 p q n (.tup [nD k, .tup us]) x9 (.val (.tup b.cs)) x11 x12 x13 (.val e.d) (.val r) x16 x17 x18
  have hln := iv.ln
  have d1 := dueq iv.ok.k4 us iv.ok.cz st he.ql
  have d2 := item_ok iv.hn iv.ok (by omega) iv.cs he.ql h3
  have gr := gd_rs (k := k) (U := us.length) (b := b) iv.ok.cz.n3 (show b.sd.length ≤ 1000 by omega) he
  have c1 : parM 13 16 (aCons (callM m__law_due (aCons (rd 8) (aCons (rd 10) (aCons (rd 14) aNil)))) (aCons (callM m__law_by_item (aCons (rd 7) (aCons (rd 14) aNil))) aNil)) E st = some (.nx (envQ8 K U x4 p q n (.tup [nD k, .tup us]) x9 (.val (.tup b.cs)) x11 x12 (.val (rsD (due k us.length b.cs e))) (.val e.d) (.val r) (.val (rsB b (due k us.length b.cs e))) x17 x18), stB st n b e.d (due k us.length b.cs e)) :=
    Lm.par_nx (Lm.cons_of (Lm.call_of (Lm.cons_of (f := rd 8) (s1 := st) rfl (Lm.cons_of (f := rd 10) (s1 := st) rfl (Lm.cons_of (f := rd 14) (s1 := st) rfl v_aNil))) d1) (Lm.cons_of (Lm.call_of (Lm.cons_of (f := rd 7) (s1 := st) rfl (Lm.cons_of (f := rd 14) (s1 := st) rfl v_aNil)) d2) v_aNil))
  have at0 : ∀ {R : Rs} {s : S} {w : Str} {d : D} {c : Bool}, rsD R = .lst [.str w, d] → decide (w.cps.toList = ("ok" : Str).cps.toList) = c → tstM (opM eqM (opM subD (rd 13) (cst (.int 0))) (cst (.str "ok"))) (envQ8 K U x4 p q n (.tup [nD k, .tup us]) x9 (.val (.tup b.cs)) x11 x12 (.val (rsD R)) (.val e.d) (.val r) (.val (rsB b R)) x17 x18) s = some (c, s) := fun {R s w d c} hw hc =>
    Lx.eqS (subL_str (g := rd 13) (by rw [hw]; rfl)) (h := cst (.str "ok")) rfl hc
  cases hd : due k us.length b.cs e with
  | no v =>
    rw [hd] at c1 gr
    refine ⟨q, b, st, .lst [.str "NoCut", v], ?_, gr, iv.mono rfl (Nat.le_succ t), rfl⟩
    unfold edB
    rw [Lm.seq_nx c1]
    exact Lm.ifs_f (at0 (R := .no v) (w := "NoCut") rfl (by decide +kernel)) v_nxM
  | bad x =>
    rw [hd] at c1 gr
    refine ⟨q, b, st, .lst [.str "BadCuts", x], ?_, gr, iv.mono rfl (Nat.le_succ t), rfl⟩
    unfold edB
    rw [Lm.seq_nx c1]
    exact Lm.ifs_f (at0 (R := .bad x) (w := "BadCuts") rfl (by decide +kernel)) v_nxM
  | ok ds =>
    rw [hd] at c1 gr
    have npn := ob_ne iv.hp iv.hn
    have nqn := ob_ne iv.hq iv.hn
    obtain ⟨s1, hs1⟩ : ∃ s1, s1 = st.put n (bO (b.done e.d ds)) := ⟨_, rfl⟩
    have c1 : parM 13 16 (aCons (callM m__law_due (aCons (rd 8) (aCons (rd 10) (aCons (rd 14) aNil)))) (aCons (callM m__law_by_item (aCons (rd 7) (aCons (rd 14) aNil))) aNil)) E st = some (.nx (envQ8 K U x4 p q n (.tup [nD k, .tup us]) x9 (.val (.tup b.cs)) x11 x12 (.val (rsD (.ok ds))) (.val e.d) (.val r) (.val (rsB b (.ok ds))) x17 x18), s1) := by rw [hs1]; exact c1
    let E1 : Sg := envQ8 K U x4 p q n (.tup [nD k, .tup us]) x9 (.val (.tup b.cs)) x11 x12 (.val (rsD (.ok ds))) (.val e.d) (.val r) (.val (rsB b (.ok ds))) x17 x18
    have hp1 : s1.ob[p]? = some (.lst (hdS b.c0 :: b.sd.map enD)) := by rw [hs1]; exact put_ne iv.hp (fun z => npn z.symm)
    have a1 : opM subD (rd 13) (cst (.int 1)) E1 s1 = some (.tup ds, s1) := subL_two (g := rd 13) rfl
    have a2 := sappX (fo := rd 5) (env := E1) hp1 rfl (Lh.tup2 (f := rd 14) (h := opM subD (rd 13) (cst (.int 1))) (s1 := s1) rfl a1) hp1 (by rw [List.length_cons, List.length_map]; omega)
    obtain ⟨s2, hs2⟩ : ∃ s2, s2 = s1.put p (.lst (hdS b.c0 :: b.sd.map enD ++ [.tup [e.d, .tup ds]])) := ⟨_, rfl⟩
    rw [← hs2] at a2
    have hp2 : s2.ob[p]? = some (.lst (hdS b.c0 :: b.sd.map enD ++ [.tup [e.d, .tup ds]])) := by rw [hs2]; exact put_at hp1
    have l := intsub (h := cst (.int 1)) (s2 := s2) (j := 1) (lenR (g := rd 5) (env := E1) rfl hp2) rfl
    rw [List.length_append, List.length_cons, List.length_map, show (((b.sd.length + 1 + [D.tup [e.d, .tup ds]].length : Nat) : Int) - 1) = ((b.sd.length + 1 : Nat) : Int) by simp] at l
    have a3 : par2 13 6 (xV (frz (lstM (aCons (cst (.str "ok")) (aCons (opM subM (cbM lenA (aCons (rd 5) aNil)) (cst (.int 1))) aNil))))) (xV (stoL (lstM aNil))) E1 s2 = some (.nx (envQ8 K U x4 p s2.ob.length n (.tup [nD k, .tup us]) x9 (.val (.tup b.cs)) x11 x12 (.val (.lst [.str "ok", nD (b.sd.length + 1)])) (.val e.d) (.val r) (.val (rsB b (.ok ds))) x17 x18), s2.ad (.lst [])) := by
      unfold par2 xV
      rw [Lm.lst_of (Lm.cons_of (f := cst (.str "ok")) (s1 := s2) rfl (Lm.cons_of l v_aNil)) (by simp)]
      rfl
    have adk : ∀ {i : Nat} {o : Ob}, s2.ob[i]? = some o → (s2.ad (.lst [])).ob[i]? = some o := fun {i o} h => by
      show (s2.ob ++ [_])[i]? = _
      rw [List.getElem?_append_left (List.getElem?_eq_some_iff.mp h).1]; exact h
    have hpl : p < s2.ob.length := (List.getElem?_eq_some_iff.mp hp2).1
    have nice := en_nice iv.ok.k4 iv.ok.cz hd
    refine ⟨s2.ob.length, b.done e.d ds, s2.ad (.lst []), .lst [.str "ok", nD (b.sd.length + 1)], ?_, gr, ⟨adk ?_, ?_, ?_, adk ?_, ?_, by omega, iv.c0, ?_, ?_⟩, ?_⟩
    · unfold edB
      rw [Lm.seq_nx c1]
      refine Lm.ifs_t (at0 (R := .ok ds) (w := "ok") rfl (by decide +kernel)) ?_
      rw [Lm.seq_nx a2]
      exact a3
    · rw [hs2]; exact put_ne (by rw [hs1]; exact put_at iv.hn) npn
    · refine ⟨iv.ok.k4, iv.ok.u2, iv.ok.K, iv.ok.U, due_cz hd, iv.ok.w, fun x hx => ?_⟩
      rcases List.mem_append.mp hx with z | z
      · exact iv.ok.sn x z
      · rw [List.mem_singleton.mp z]; exact nice
    · show ds = csOf b.c0 (b.sd ++ [(e.d, ds)])
      unfold csOf
      rw [List.getLast?_append]; rfl
    · rw [hp2]
      show _ = some (Ob.lst (hdS b.c0 :: (b.sd ++ [(e.d, ds)]).map enD))
      rw [List.map_append]; rfl
    · show (s2.ob ++ [_])[s2.ob.length]? = _
      rw [List.getElem?_append_right (Nat.le_refl _), Nat.sub_self]; rfl
    · intro x hx
      rcases List.mem_append.mp hx with z | z
      · rcases List.mem_append.mp z with z | z
        · exact iv.al x (List.mem_append.mpr (.inl z))
        · rw [List.mem_singleton.mp z]; exact ⟨due_cz hd, nice, ed_gdok iv.ok.k4 iv.ok.u2 iv.ok.cz hd⟩
      · cases z
    · show (b.sd ++ [(e.d, ds)]).length + 0 ≤ _
      rw [List.length_append]; simp; omega
    · rw [hs2, hs1]; rfl
end
end Lw
set_option Elab.async false
set_option linter.all false
set_option maxRecDepth 100000
set_option maxHeartbeats 4000000
namespace Lw
open PySem MD L2 Lc
variable {ww : WW}
noncomputable def tnF : MS := (seqM (asgM (nameT 17) (cbM tupleM (aCons (frz (compM (seqI (slM slAny (rd 5) (prt (cst (.int 1))) noP)) (nameT 18) yesM (opM subD (rd 18) (cst (.int 0))) [18])) aNil)))
 (ifS (tstM (opM neM (cbM reprQ (aCons (frz (lstM (aCons (rd 16) (aCons (methN0 "Bench" "state" 1 m_Bench_state (rd 7)) (aCons (methM "Bench" "edits" m_Bench_edits (rd 7) aNil) aNil))))) aNil)) (cbM reprQ (aCons (frz (lstM (aCons (rd 13) (aCons (opM subD (opM subD (rd 5) (unM (unI fun i => .int (-i)) (cst (.int 1)))) (cst (.int 1))) (aCons (rd 17) aNil))))) aNil))))
 (retM (cst (.bl false)))
 nxM))
noncomputable def ixI : MI := (seqI (frz (lstM (aCons (callM m__law_index (aCons (rd 1) (aCons (rd 11) aNil))) (aCons (opM subM (rd 11) (cst (.int 1))) (aCons (rd 11) aNil))))))
noncomputable def tnB : MS := (seqM (asgM (nameT 10) (opM subD (opM subD (rd 5) (unM (unI fun i => .int (-i)) (cst (.int 1)))) (cst (.int 1))))
 (seqM (asgM (nameT 11) (cbM lenA (aCons (rd 10) aNil)))
 (seqM (forM ixI (nameT 12) itB)
 (seqM (parM 14 15 (aCons (callM m__law_edit (aCons (rd 1) (aCons (rd 8) (aCons (rd 10) aNil)))) (aCons (callM m__law_draw (aCons (rd 1) (aCons (cst (.int 6)) aNil))) aNil)))
 (seqM waB tnF)))))
theorem b_law_eq : b_law = (seqM (asgM (tupT 3 (consT (nameT 2) (consT (nameT 3) (consT (nameT 4) nilT)))) (callM m__law_scheme (aCons (rd 1) (aCons (cst (.int 3)) (aCons (cst (.int 20)) aNil)))))
 (seqM (asgM (tupT 4 (consT (nameT 5) (consT (nameT 6) (consT (nameT 7) (consT (nameT 8) nilT))))) (tupM (aCons (stoL (lstM (aCons (tupM (aCons (cst .non) (aCons (rd 4) aNil))) aNil))) (aCons (stoL (lstM aNil)) (aCons (makeM "Bench" m_Bench___init__ (aCons (rd 2) (aCons (rd 3) (aCons (rd 4) aNil)))) (aCons (tupM (aCons (opM subD (rd 2) (cst (.int 0))) (aCons (rd 3) aNil))) aNil))))))
 (seqM (forM (r1M (aCons (cst (.int 18)) aNil)) (nameT 9) tnB)
 (retM (cst (.bl true)))))) := rfl
theorem forM_st {it : MI} {t : MG} {b : MS} {env : Sg} {st s1 : S} {ds : List D} {r : Option (Fl × S)} (h : it env st = some (ds, s1)) (e : forL t b ds env s1 = r) : forM it t b env st = r := by
  rw [v_forM, h]
  exact e
theorem lenTq {g : ME} {env : Sg} {st s1 : S} {ds : List D} (h : g env st = some (.tup ds, s1)) : cbM lenA (aCons g aNil) env st = some (nD ds.length, s1) := by
  rw [v_cbM, Lm.cons_of h v_aNil, Option.bind_some]; rfl
section
variable {st : S} {p q n : Nat} {b : Bn} {k : Nat} {us : List D} {t : Nat} {K U : D} {x4 x9 x10 x11 x12 x13 x14 x15 x16 x17 x18 : Sl}
theorem nowq {g : ME} {env : Sg} (iv : Iv st p q n b k us t) (h : g env st = some (.ref p, st)) : opM subD (opM subD g (unM (unI fun i => .int (-i)) (cst (.int 1)))) (cst (.int 1)) env st = some (.tup b.cs, st) := by
  obtain ⟨ds, y, e⟩ := last_split b.c0 b.sd
  have hp := iv.hp
  rw [e, ← iv.cs] at hp
  exact Lh.at_tup (j := 1) (endR h hp) rfl
theorem in_words {w : Str} {c : Bool} {g : ME} {env : Sg} (hg : g env st = some (.str w, st)) (h : inM (.str w) (.lst [.str "add", .str "drop", .str "change"]) = some (.bl c)) : tstM (opM (cntD false) g (frz (lstM (aCons (cst (.str "add")) (aCons (cst (.str "drop")) (aCons (cst (.str "change")) aNil)))))) env st = some (c, st) := by
  have hl : frz (lstM (aCons (cst (.str "add")) (aCons (cst (.str "drop")) (aCons (cst (.str "change")) aNil)))) env st = some (.lst [.str "add", .str "drop", .str "change"], st) := Lm.lst_of (Lm.cons_of (f := cst (.str "add")) (s1 := st) rfl (Lm.cons_of (f := cst (.str "drop")) (s1 := st) rfl (Lm.cons_of (f := cst (.str "change")) (s1 := st) rfl v_aNil))) (by simp)
  refine Lm.tst_of ?_
  rw [v_opM, hg, Option.bind_some, hl, Option.bind_some, dr_lst]
  show ((cntD false (.str w) (.lst [.str "add", .str "drop", .str "change"])).map fun z => (z, st)) = _
  rw [v_cntL, if_neg (by decide), h]; rfl
theorem wa_all (iv : Iv st p q n b k us t) (ht : t ≤ 50) {e : Ed} (he : e.gd) {r : Nat} (hr : r < 6) : ∃ q' b' s' R, waB (envQ8 K U x4 p q n (.tup [nD k, .tup us]) x9 (.val (.tup b.cs)) x11 x12 x13 (.val e.d) (.val (nD r)) x16 x17 x18) st = some (.nx (envQ8 K U x4 p q' n (.tup [nD k, .tup us]) x9 (.val (.tup b.cs)) x11 x12 (.val R) (.val e.d) (.val (nD r)) (.val R) x17 x18), s') ∧ Gd R 4 420 ∧ Iv s' p q' n b' k us (t + 1) ∧ s'.n = st.n := by
  by_cases h0 : r = 0
  · subst h0; exact wa_undo iv (by omega)
  by_cases h1 : r = 1
  · subst h1; exact wa_redo iv (by omega)
  let E : Sg := envQ8 K U x4 p q n (.tup [nD k, .tup us]) x9 (.val (.tup b.cs)) x11 x12 x13 (.val e.d) (.val (nD r)) x16 x17 x18
  have t0 := Lh.lt_of (f := rd 15) (h := cst (.int 2)) (env := E) (st := st) (s1 := st) (s2 := st) (i := ((r : Nat) : Int)) (j := 2) rfl rfl
  rw [decide_eq_false (by omega)] at t0
  have at_ : ∀ {j : Nat} {d : D} {es : List D} {x14 : Sl}, x14 = .val (.tup es) → es[j]? = some d → opM subD (rd 14) (cst (.int ((j : Nat) : Int))) (envQ8 K U x4 p q n (.tup [nD k, .tup us]) x9 (.val (.tup b.cs)) x11 x12 x13 x14 (.val (nD r)) x16 x17 x18) st = some (d, st) := fun {j d es x14} hx h => Lh.at_tup (j := j) (f := rd 14) (s1 := st) (ds := es) (by rw [hx]; rfl) h
  have yes : ∀ {w : Str} {es : List D}, e.d = .tup (.str w :: es) → inM (.str w) (.lst [.str "add", .str "drop", .str "change"]) = some (.bl true) → Ed3 e → ∃ q' b' s' R, waB E st = some (.nx (envQ8 K U x4 p q' n (.tup [nD k, .tup us]) x9 (.val (.tup b.cs)) x11 x12 (.val R) (.val e.d) (.val (nD r)) (.val R) x17 x18), s') ∧ Gd R 4 420 ∧ Iv s' p q' n b' k us (t + 1) ∧ s'.n = st.n := fun {w es} hw hin h3 => by
    obtain ⟨q', b', s', R, e1, g, i2, hs⟩ := ed_ok (K := K) (U := U) (x4 := x4) (x9 := x9) (x11 := x11) (x12 := x12) (x13 := x13) (x16 := x16) (x17 := x17) (x18 := x18) iv ht he h3 (nD r)
    refine ⟨q', b', s', R, ?_, g, i2, hs⟩
    unfold waB
    refine Lm.ifs_f t0 (Lm.ifs_t (in_words (at_ (j := 0) (es := .str w :: es) (by rw [hw]) rfl) hin) e1)
  have no : ∀ {w : Str} {es : List D}, e.d = .tup (.str w :: es) → inM (.str w) (.lst [.str "add", .str "drop", .str "change"]) = some (.bl false) → ∃ q' b' s' R, waB E st = some (.nx (envQ8 K U x4 p q' n (.tup [nD k, .tup us]) x9 (.val (.tup b.cs)) x11 x12 (.val R) (.val e.d) (.val (nD r)) (.val R) x17 x18), s') ∧ Gd R 4 420 ∧ Iv s' p q' n b' k us (t + 1) ∧ s'.n = st.n := fun {w es} hw hin => by
    refine ⟨q, b, st, .lst [], ?_, (Gd.lst (Gds.nil (n := 0) (b := 0))).mono (by decide) (by decide), iv.mono rfl (Nat.le_succ t), rfl⟩
    unfold waB
    refine Lm.ifs_f t0 (Lm.ifs_f (in_words (at_ (j := 0) (es := .str w :: es) (by rw [hw]) rfl) hin) ?_)
    exact Lm.par_nx (Lm.cons_of (Lm.lst_of (s1 := st) v_aNil (by simp)) (Lm.cons_of (Lm.lst_of (s1 := st) v_aNil (by simp)) v_aNil))
  cases e with
  | add v => exact yes rfl (by kernel_rfl) (.add v)
  | drop v => exact yes rfl (by kernel_rfl) (.drop v)
  | change v c => exact yes rfl (by kernel_rfl) (.change v c)
  | lift v => exact no (w := "lift") (es := [v]) rfl (by kernel_rfl)
  | allow v m => exact no (w := "allow") (es := [v, m]) rfl (by kernel_rfl)
theorem tn_fin (iv : Iv st p q n b k us t) (ht : t ≤ 50) {R sh : D} (gR : Gd R 4 420) : ∃ y17 y18, tnF (envQ8 K U x4 p q n sh x9 x10 x11 x12 (.val R) x14 x15 (.val R) x17 x18) st = some (.nx (envQ8 K U x4 p q n sh x9 x10 x11 x12 (.val R) x14 x15 (.val R) y17 y18), st) := by
  refine ⟨.val (.tup (b.sd.map (·.1))), x18, ?_⟩
  let E : Sg := envQ8 K U x4 p q n sh x9 x10 x11 x12 (.val R) x14 x15 (.val R) x17 x18
  let E' : Sg := envQ8 K U x4 p q n sh x9 x10 x11 x12 (.val R) x14 x15 (.val R) (.val (.tup (b.sd.map (·.1)))) x18
  have hln := iv.ln
  have hsl : seqI (slM slAny (rd 5) (prt (cst (.int 1))) noP) E st = some (b.sd.map enD, st) := by
    have e1 : slM slAny (rd 5) (prt (cst (.int 1))) noP E st = some (.lst (b.sd.map enD), st) := by
      rw [v_slM]
      show ((slAny (dr st (.ref p)) (some 1) none).map fun z => (z, st)) = _
      have e : dr st (.ref p) = .lst (hdS b.c0 :: b.sd.map enD) := by
        show (match st.ob[p]? with | some (.lst ds) => D.lst ds | some (.dic _ ks ds) => D.dic ks ds | _ => D.ref p) = _
        rw [iv.hp]
      rw [e, v_slL]
      show some (D.lst (cutD (hdS b.c0 :: b.sd.map enD) (some ((1 : Nat) : Int)) none), st) = _
      rw [cutD_fromN]; rfl
    rw [v_seqI, e1, Option.bind_some]; rfl
  have hc := Lc.comp_map (F := enD) (G := fun x : D × List D => x.1) (en := fun x => envQ8 K U x4 p q n sh x9 x10 x11 x12 (.val R) x14 x15 (.val R) x17 (.val (enD x))) (l := b.sd) (t := nameT 18) (f := opM subD (rd 18) (cst (.int 0))) (vs := [18]) (env1 := envQ8 K U x4 p q n sh x9 x10 x11 x12 (.val R) x14 x15 (.val R) x17 .un) hsl (by omega) rfl fun a _ => ⟨rfl, Lh.at_tup (j := 0) (f := rd 18) (s1 := st) (ds := [a.1, .tup a.2]) rfl rfl⟩
  have a1 : asgM (nameT 17) (cbM tupleM (aCons (frz (compM (seqI (slM slAny (rd 5) (prt (cst (.int 1))) noP)) (nameT 18) yesM (opM subD (rd 18) (cst (.int 0))) [18])) aNil)) E st = some (.nx E', st) := by
    refine Lm.asg_nx (d := .tup (b.sd.map (·.1))) ?_
    rw [v_cbM, Lm.cons_of hc v_aNil, Option.bind_some]
    rfl
  have f1 : frz (lstM (aCons (rd 16) (aCons (methN0 "Bench" "state" 1 m_Bench_state (rd 7)) (aCons (methM "Bench" "edits" m_Bench_edits (rd 7) aNil) aNil)))) E' st = some (.lst [R, .tup b.cs, .tup (b.sd.map (·.1))], st) :=
    Lm.lst_of (Lm.cons_of (f := rd 16) (s1 := st) rfl (Lm.cons_of (Lx.methN0_of (fo := rd 7) (s1 := st) rfl iv.hn (by decide +kernel) (state_ok iv.hn)) (Lm.cons_of (Lm.meth_of (fo := rd 7) (s1 := st) rfl iv.hn (by decide +kernel) v_aNil (edits_ok iv.hn (by omega))) v_aNil))) (by simp)
  have f2 : frz (lstM (aCons (rd 13) (aCons (opM subD (opM subD (rd 5) (unM (unI fun i => .int (-i)) (cst (.int 1)))) (cst (.int 1))) (aCons (rd 17) aNil)))) E' st = some (.lst [R, .tup b.cs, .tup (b.sd.map (·.1))], st) :=
    Lm.lst_of (Lm.cons_of (f := rd 13) (s1 := st) rfl (Lm.cons_of (nowq iv rfl) (Lm.cons_of (f := rd 17) (s1 := st) rfl v_aNil))) (by simp)
  have g3 := Gds.all (ds := b.sd.map (·.1)) (n := 2) (b := 60) fun d hd => by
    obtain ⟨x, hx, rfl⟩ := List.mem_map.mp hd
    exact (iv.al x (List.mem_append.mpr (.inl hx))).2.2
  rw [List.length_map] at g3
  have gl := Gd.lst (Gds.cons gR (Gds.cons ((iv.ok.cz.gd iv.ok.k4 iv.ok.u2).mono (show 2 ≤ 4 by decide) (Nat.le_refl 24)) (Gds.cons ((Gd.tup g3).mono (show 3 ≤ 4 by decide) (Nat.le_refl _)) (Gds.nil (b := 0)))))
  have r1 := repr_ne f1 f2 gl (by decide) (by omega)
  show tnF E st = some (.nx E', st)
  unfold tnF
  rw [Lm.seq_nx a1]
  exact Lm.ifs_f r1 v_nxM
theorem tn_one (iv : Iv st p q n b k us t) (ht : t ≤ 40) (hu0 : 1 ≤ us.length) (h0 : 0 ≤ st.n) (hm : st.n + 14 ≤ nMax) : ∃ q' b' s' y10 y11 y12 y13 y14 y15 y16 y17 y18, tnB (envQ8 K U x4 p q n (.tup [nD k, .tup us]) x9 x10 x11 x12 x13 x14 x15 x16 x17 x18) st = some (.nx (envQ8 K U x4 p q' n (.tup [nD k, .tup us]) x9 y10 y11 y12 y13 y14 y15 y16 y17 y18), s') ∧ Iv s' p q' n b' k us (t + 1) ∧ st.n ≤ s'.n ∧ s'.n ≤ st.n + 14 := by
  let E1 : Sg := envQ8 K U x4 p q n (.tup [nD k, .tup us]) x9 (.val (.tup b.cs)) x11 x12 x13 x14 x15 x16 x17 x18
  let E2 : Sg := envQ8 K U x4 p q n (.tup [nD k, .tup us]) x9 (.val (.tup b.cs)) (.val (nD b.cs.length)) x12 x13 x14 x15 x16 x17 x18
  have a1 : asgM (nameT 10) (opM subD (opM subD (rd 5) (unM (unI fun i => .int (-i)) (cst (.int 1)))) (cst (.int 1))) (envQ8 K U x4 p q n (.tup [nD k, .tup us]) x9 x10 x11 x12 x13 x14 x15 x16 x17 x18) st = some (.nx E1, st) := Lm.asg_nx (nowq iv rfl)
  have a2 : asgM (nameT 11) (cbM lenA (aCons (rd 10) aNil)) E1 st = some (.nx E2, st) := Lm.asg_nx (lenTq (g := rd 10) (s1 := st) rfl)
  obtain ⟨v, s1, e1, gv, o1, l1, l2⟩ := index_yes (n := b.cs.length) iv.ok.cz.n3 st h0 (by omega)
  have c1 := Lm.call_of (env := E2) (Lm.cons_of (f := rd 1) (s1 := st) rfl (Lm.cons_of (f := rd 11) (s1 := st) rfl v_aNil)) e1
  have ei : ixI E2 st = some ([v, .int (((b.cs.length : Nat) : Int) - 1), nD b.cs.length], s1) := by
    unfold ixI
    rw [v_seqI, Lm.lst_of (Lm.cons_of c1 (Lm.cons_of (intsub (f := rd 11) (h := cst (.int 1)) (s1 := s1) (s2 := s1) (i := ((b.cs.length : Nat) : Int)) (j := 1) rfl rfl) (Lm.cons_of (f := rd 11) (s1 := s1) rfl v_aNil))) (by simp), Option.bind_some]
    rfl
  have h3 := iv.ok.cz.n3
  have iv1 : Iv s1 p q n b k us t := iv.mono o1 (Nat.le_refl t)
  obtain ⟨y12, y13, e3⟩ := it_loop (K := K) (U := U) (sh := .tup [nD k, .tup us]) (x4 := x4) (x9 := x9) (x14 := x14) (x15 := x15) (x16 := x16) (x17 := x17) (x18 := x18) [v, .int (((b.cs.length : Nat) : Int) - 1), nD b.cs.length] x12 x13 iv1 (by
    intro w hw
    simp only [List.mem_cons, List.mem_nil_iff, or_false] at hw
    rcases hw with rfl | rfl | rfl
    · exact gv
    · exact (Gd.int (by omega)).mono (Nat.zero_le 3) (Nat.zero_le 400)
    · exact (Gd.nat (by omega)).mono (Nat.zero_le 3) (Nat.zero_le 400))
  let E3 : Sg := envQ8 K U x4 p q n (.tup [nD k, .tup us]) x9 (.val (.tup b.cs)) (.val (nD b.cs.length)) y12 y13 x14 x15 x16 x17 x18
  obtain ⟨_, s2, e4, ⟨e, rfl, he⟩, o2, l3, l4⟩ := edit_yes iv.ok.k4 hu0 iv.ok.u2 h3 s1 (by omega) (by omega)
  obtain ⟨_, s3, e5, ⟨r, rfl, hr⟩, o3, l5, l6⟩ := drawO (m := 6) (by decide) (by decide) s2 (by omega) (by omega)
  have a4 : parM 14 15 (aCons (callM m__law_edit (aCons (rd 1) (aCons (rd 8) (aCons (rd 10) aNil)))) (aCons (callM m__law_draw (aCons (rd 1) (aCons (cst (.int 6)) aNil))) aNil)) E3 s1 = some (.nx (envQ8 K U x4 p q n (.tup [nD k, .tup us]) x9 (.val (.tup b.cs)) (.val (nD b.cs.length)) y12 y13 (.val e.d) (.val (nD r)) x16 x17 x18), s3) :=
    Lm.par_nx (Lm.cons_of (Lm.call_of (Lm.cons_of (f := rd 1) (s1 := s1) rfl (Lm.cons_of (f := rd 8) (s1 := s1) rfl (Lm.cons_of (f := rd 10) (s1 := s1) rfl v_aNil))) e4) (Lm.cons_of (Lm.call_of (Lm.cons_of (f := rd 1) (s1 := s2) rfl (Lm.cons_of (f := cst (.int 6)) (d := nD 6) (s1 := s2) rfl v_aNil)) e5) v_aNil))
  have iv3 : Iv s3 p q n b k us t := (iv1.mono o2 (Nat.le_refl t)).mono o3 (Nat.le_refl t)
  obtain ⟨q', b', s4, R, e6, gR, iv4, n4⟩ := wa_all (K := K) (U := U) (x4 := x4) (x9 := x9) (x11 := .val (nD b.cs.length)) (x12 := y12) (x13 := y13) (x16 := x16) (x17 := x17) (x18 := x18) iv3 (by omega) he hr
  obtain ⟨y17, y18, e7⟩ := tn_fin (K := K) (U := U) (x4 := x4) (x9 := x9) (x10 := .val (.tup b.cs)) (x11 := .val (nD b.cs.length)) (x12 := y12) (x14 := .val e.d) (x15 := .val (nD r)) (x17 := x17) (x18 := x18) (sh := .tup [nD k, .tup us]) iv4 (by omega) gR
  refine ⟨q', b', s4, .val (.tup b.cs), .val (nD b.cs.length), y12, .val R, .val e.d, .val (nD r), .val R, y17, y18, ?_, iv4, by omega, by omega⟩
  unfold tnB
  rw [Lm.seq_nx a1, Lm.seq_nx a2, Lm.seq_nx (forM_st ei e3), Lm.seq_nx a4, Lm.seq_nx e6]
  exact e7
end
theorem tn_loop {K U : D} {x4 : Sl} {p n k : Nat} {us : List D} (hu0 : 1 ≤ us.length) : ∀ (ds : List D) (st : S) (q : Nat) (b : Bn) (t : Nat) (x9 x10 x11 x12 x13 x14 x15 x16 x17 x18 : Sl), Iv st p q n b k us t → t + ds.length ≤ 40 → 0 ≤ st.n → st.n + ((ds.length * 14 : Nat) : Int) ≤ nMax →
    ∃ e s', forL (nameT 9) tnB ds (envQ8 K U x4 p q n (.tup [nD k, .tup us]) x9 x10 x11 x12 x13 x14 x15 x16 x17 x18) st = some (.nx e, s')
  | [], st, q, b, t, x9, x10, x11, x12, x13, x14, x15, x16, x17, x18, _, _, _, _ => ⟨_, st, rfl⟩
  | d :: ds, st, q, b, t, x9, x10, x11, x12, x13, x14, x15, x16, x17, x18, iv, hl, h0, hm => by
    have en : (((d :: ds).length * 14 : Nat) : Int) = 14 + ((ds.length * 14 : Nat) : Int) := by rw [List.length_cons]; omega
    rw [en] at hm
    rw [List.length_cons] at hl
    obtain ⟨q', b', s1, y10, y11, y12, y13, y14, y15, y16, y17, y18, e1, iv1, l1, l2⟩ := tn_one (K := K) (U := U) (x4 := x4) (x9 := .val d) (x10 := x10) (x11 := x11) (x12 := x12) (x13 := x13) (x14 := x14) (x15 := x15) (x16 := x16) (x17 := x17) (x18 := x18) iv (by omega) hu0 h0 (by omega)
    obtain ⟨e, s2, e2⟩ := tn_loop (K := K) (U := U) (x4 := x4) hu0 ds s1 q' b' (t + 1) (.val d) y10 y11 y12 y13 y14 y15 y16 y17 y18 iv1 (by omega) (by omega) (by omega)
    refine ⟨e, s2, ?_⟩
    have et : nameT 9 d (envQ8 K U x4 p q n (.tup [nD k, .tup us]) x9 x10 x11 x12 x13 x14 x15 x16 x17 x18) = some (envQ8 K U x4 p q n (.tup [nD k, .tup us]) (.val d) x10 x11 x12 x13 x14 x15 x16 x17 x18) := rfl
    rw [v_forL, et, Option.bind_some, e1, Option.bind_some]
    exact e2
theorem tup_of {a : MA} {env : Sg} {st s1 : S} {ds : List D} (h : a env st = some (ds, s1)) (hl : ds.length ≤ 1000) : tupM a env st = some (.tup ds, s1) := by
  unfold tupM
  rw [h, Option.bind_some]
  dsimp only
  rw [if_pos (Nat.le_trans hl (by decide))]
theorem law_holds : ∀ ns : List Int, ns.length ≤ 63 → ∃ s1, b_law (env0 19) ⟨ns.map absI, 0, []⟩ = some (.rt (.bl true), s1) := by
  intro ns _
  obtain ⟨st, hst⟩ : ∃ st : S, st = ⟨ns.map absI, 0, []⟩ := ⟨_, rfl⟩
  have hn : st.n = 0 := by rw [hst]
  rw [← hst]
  have hM : (3000 : Int) ≤ nMax := by unfold nMax; decide
  obtain ⟨_, s1, e1, ⟨s, rfl, ok⟩, l1, l2⟩ := scheme_yes (S8 := 3) (T := 20) (by decide) (by decide) (by decide) st (by omega) (by omega)
  let E0 : Sg := [.un, .val .deck, .un, .un, .un, .un, .un, .un, .un, .un, .un, .un, .un, .un, .un, .un, .un, .un, .un]
  let E1 : Sg := [.un, .val .deck, .val (kiD s), .val (.tup (s.units.map unD)), .val (.tup (s.cuts.map cuD)), .un, .un, .un, .un, .un, .un, .un, .un, .un, .un, .un, .un, .un, .un]
  have a1 : asgM (tupT 3 (consT (nameT 2) (consT (nameT 3) (consT (nameT 4) nilT)))) (callM m__law_scheme (aCons (rd 1) (aCons (cst (.int 3)) (aCons (cst (.int 20)) aNil)))) E0 st = some (.nx E1, s1) := by
    rw [v_asgM, Lm.call_of (Lm.cons_of (f := rd 1) (s1 := st) rfl (Lm.cons_of (f := cst (.int 3)) (s1 := st) rfl (Lm.cons_of (f := cst (.int 20)) (s1 := st) rfl v_aNil))) e1]
    rfl
  obtain ⟨cs, hcs⟩ : ∃ cs, cs = s.cuts.map cuD := ⟨_, rfl⟩
  obtain ⟨us, hus⟩ : ∃ us, us = s.units.map unD := ⟨_, rfl⟩
  let B : Bn := ⟨kiD s, .tup us, cs, cs, [], [], false⟩
  let s2 : S := s1.ad (.lst [hdS cs])
  let s3 : S := s2.ad (.lst [])
  have hE1 : E1 = [.un, .val .deck, .val (kiD s), .val (.tup us), .val (.tup cs), .un, .un, .un, .un, .un, .un, .un, .un, .un, .un, .un, .un, .un, .un] := by rw [hus, hcs]
  have r3 : ∀ z : S, rd 3 E1 z = some (.tup us, z) := fun z => by rw [hus]; rfl
  have r4 : ∀ z : S, rd 4 E1 z = some (.tup cs, z) := fun z => by rw [hcs]; rfl
  have b1 : stoL (lstM (aCons (tupM (aCons (cst .non) (aCons (rd 4) aNil))) aNil)) E1 s1 = some (.ref s1.ob.length, s2) := by
    have hi : lstM (aCons (tupM (aCons (cst .non) (aCons (rd 4) aNil))) aNil) E1 s1 = some ([hdS cs], s1) := by
      unfold lstM
      rw [Lm.cons_of (Lh.tup2 (f := cst .non) (h := rd 4) (s1 := s1) rfl (r4 s1)) v_aNil, Option.bind_some]
      dsimp only
      rw [if_pos (by show 1 ≤ sizeLine; decide)]
    unfold stoL
    rw [hi]; rfl
  have b2 : stoL (lstM aNil) E1 s2 = some (.ref s2.ob.length, s3) := by
    have hi : lstM aNil E1 s2 = some ([], s2) := rfl
    unfold stoL
    rw [hi]; rfl
  have b3 : makeM "Bench" m_Bench___init__ (aCons (rd 2) (aCons (rd 3) (aCons (rd 4) aNil))) E1 s3 = some (.ref s3.ob.length, Xs s3 [bO B]) :=
    Lm.make_of (Lm.cons_of (f := rd 2) (s1 := s3) rfl (Lm.cons_of (r3 s3) (Lm.cons_of (r4 s3) v_aNil))) (init_ok (fun t => by rw [hus, hcs]; exact scheme_none ok t))
  let s4 : S := Xs s3 [bO B]
  have b4 : tupM (aCons (opM subD (rd 2) (cst (.int 0))) (aCons (rd 3) aNil)) E1 s4 = some (.tup [nD s.k, .tup us], s4) :=
    Lh.tup2 (Lh.at_tup (j := 0) (f := rd 2) (s1 := s4) (ds := [nD s.k, .tup (s.rows.map rwD), .tup (s.ends.map D.bl)]) rfl rfl) (h := rd 3) (r3 s4)
  have a2 : asgM (tupT 4 (consT (nameT 5) (consT (nameT 6) (consT (nameT 7) (consT (nameT 8) nilT))))) (tupM (aCons (stoL (lstM (aCons (tupM (aCons (cst .non) (aCons (rd 4) aNil))) aNil))) (aCons (stoL (lstM aNil)) (aCons (makeM "Bench" m_Bench___init__ (aCons (rd 2) (aCons (rd 3) (aCons (rd 4) aNil)))) (aCons (tupM (aCons (opM subD (rd 2) (cst (.int 0))) (aCons (rd 3) aNil))) aNil))))) E1 s1 =
      some (.nx (envQ8 (kiD s) (.tup us) (.val (.tup cs)) s1.ob.length s2.ob.length s3.ob.length (.tup [nD s.k, .tup us]) .un .un .un .un .un .un .un .un .un .un), s4) := by
    rw [v_asgM, tup_of (Lm.cons_of b1 (Lm.cons_of b2 (Lm.cons_of b3 (Lm.cons_of b4 v_aNil)))) (by simp), hE1]
    rfl
  have l2' : s2.ob.length = s1.ob.length + 1 := by show (s1.ob ++ [_]).length = _; rw [List.length_append]; rfl
  have l3' : s3.ob.length = s1.ob.length + 2 := by show (s2.ob ++ [_]).length = _; rw [List.length_append, l2']; rfl
  have cz : Cz s.k us.length cs := by rw [hus, hcs]; exact ok.cz
  have iv : Iv s4 s1.ob.length s2.ob.length s3.ob.length B s.k us 0 := by
    have g1 : s2.ob[s1.ob.length]? = some (.lst [hdS cs]) := by show (s1.ob ++ [_])[_]? = _; rw [List.getElem?_append_right (Nat.le_refl _), Nat.sub_self]; rfl
    have g2 : s3.ob[s2.ob.length]? = some (.lst []) := by show (s2.ob ++ [_])[_]? = _; rw [List.getElem?_append_right (Nat.le_refl _), Nat.sub_self]; rfl
    have up : ∀ {a b : S} {o u : Ob} {i : Nat}, b.ob = a.ob ++ [o] → a.ob[i]? = some u → b.ob[i]? = some u := fun {a b o u i} hb h => by
      rw [hb, List.getElem?_append_left (List.getElem?_eq_some_iff.mp h).1]; exact h
    have x4 : s4.ob = s3.ob ++ [bO B] := rfl
    refine ⟨Xs_at s3 [bO B] 0, ⟨ok.k4, by rw [hus, List.length_map]; exact ok.u2, ⟨_, _, rfl⟩, rfl, cz, rfl, fun x hx => nomatch hx⟩, rfl, up x4 (up (o := .lst []) rfl g1), up x4 g2, by omega, cz, fun x hx => (nomatch hx), Nat.le_refl 0⟩
  have hl18 : (rngD 0 18).length = 18 := rngD_len _ _
  have hr : rng1 [.int 18] = some (rngD 0 18) := rng1_of (by decide) (by decide)
  have hs4 : s4.n = s1.n := rfl
  obtain ⟨e, s5, e5⟩ := tn_loop (K := kiD s) (U := .tup us) (x4 := .val (.tup cs)) (by rw [hus, List.length_map]; exact ok.u1) (rngD 0 18) s4 s2.ob.length B 0 .un .un .un .un .un .un .un .un .un .un iv (by rw [hl18]; decide) (by omega) (by rw [hl18]; omega)
  have er : r1M (aCons (cst (.int 18)) aNil) (envQ8 (kiD s) (.tup us) (.val (.tup cs)) s1.ob.length s2.ob.length s3.ob.length (.tup [nD s.k, .tup us]) .un .un .un .un .un .un .un .un .un .un) s4 = some (rngD 0 18, s4) := by
    rw [v_r1M, Lm.cons_of (f := cst (.int 18)) (s1 := s4) rfl v_aNil, Option.bind_some]
    show ((rng1 [.int 18]).map _) = _
    rw [hr]; rfl
  refine ⟨s5, ?_⟩
  rw [b_law_eq]
  show seqM _ _ E0 st = _
  rw [Lm.seq_nx a1, Lm.seq_nx a2, Lm.seq_nx (forM_st er e5)]
  rfl
end Lw
open PySem PySem.W PyProof.Rows
set_option maxHeartbeats 0 in
theorem PySem.Challenge.cw_unitlimits_k08_items_and_operators_of_be_holds : PySem.Challenge.rw_unitlimits_k08_items_and_operators_of_be.Holds := by
  refine hd ?_
  k_fill
  refine MD.walkG (l := PySem.Challenge.rw_unitlimits_k08_items_and_operators_of_be) (n := 63) (k := 11) (x := "_law_script") rfl (by decide) rfl ⟨rfl, by decide, by decide⟩ (fun w h Y => PySem.W.kIn_of Y) ?F
  case F =>
    intro w mg fa h KX G hmg
    refine' Lw.all_mk { w := w } Lw.law_holds KX G hmg ?ax0 ?lx0 ?ccx0 ?kx0 ?ax1 ?lx1 ?ccx1 ?kx1 ?ax2 ?lx2 ?ccx2 ?kx2 ?ax3 ?lx3 ?ccx3 ?kx3 ?ax4 ?lx4 ?ccx4 ?kx4 ?ax5 ?lx5 ?ccx5 ?kx5 ?ax6 ?lx6 ?ccx6 ?kx6 ?ax7 ?lx7 ?ccx7 ?kx7 ?ax8 ?lx8 ?ccx8 ?kx8 ?ax9 ?lx9 ?ccx9 ?kx9 ?ax10 ?lx10 ?ccx10 ?kx10 ?ax11 ?lx11 ?ccx11 ?kx11 ?ax12 ?lx12 ?ccx12 ?kx12 ?ax13 ?lx13 ?ccx13 ?kx13 ?ax14 ?lx14 ?ccx14 ?kx14 ?ax15 ?lx15 ?ccx15 ?kx15 ?ax16 ?lx16 ?ccx16 ?kx16 ?ax17 ?lx17 ?ccx17 ?kx17 ?ax18 ?lx18 ?ccx18 ?kx18 ?ax19 ?lx19 ?ccx19 ?kx19 ?ax20 ?lx20 ?ccx20 ?kx20 ?aC_Bench ?pg_Bench ?hd_Bench ?po_Bench ?sa_Bench ?mk_Bench ?kc_Bench ?nf0_Bench ?nf1_Bench ?nf2_Bench ?nf3_Bench ?nf4_Bench ?nf5_Bench ?nf6_Bench ?ax21 ?ix21 ?lx21 ?dl_x21 ?ccx21 ?kx21 ?ax22 ?lx22 ?ccx22 ?kx22 ?ax23 ?lx23 ?ccx23 ?kx23 ?ax24 ?lx24 ?ccx24 ?kx24 ?ax25 ?lx25 ?ccx25 ?kx25 ?ax26 ?lx26 ?ccx26 ?kx26 ?ax27 ?ix27 ?lx27 ?ccx27 ?kx27 ?ax28 ?ix28 ?lx28 ?ccx28 ?kx28 ?ax29 ?ix29 ?lx29 ?ccx29 ?kx29 ?ax30 ?ix30 ?lx30 ?ccx30 ?kx30 ?ax31 ?lx31 ?ccx31 ?kx31 ?ax32 ?lx32 ?ccx32 ?kx32 ?ax33 ?lx33 ?ccx33 ?kx33 ?ax34 ?ix34 ?lx34 ?ccx34 ?kx34 ?fix34 ?nqx34 ?sfx34 ?ax35 ?lx35 ?ccx35 ?kx35 ?ax36 ?lx36 ?ccx36 ?kx36 ?ax37 ?lx37 ?ccx37 ?kx37 ?ax38 ?lx38 ?ccx38 ?kx38 ?ax39 ?ix39 ?lx39 ?ccx39 ?kx39 ?ax40 ?ix40 ?lx40 ?ccx40 ?kx40 ?ax41 ?ix41 ?lx41 ?ccx41 ?kx41 ?ax42 ?lx42 ?ccx42 ?kx42 ?ax43 ?lx43 ?ccx43 ?kx43 ?ax44 ?lx44 ?ccx44 ?kx44 ?ax45 ?ix45 ?lx45 ?ccx45 ?kx45 ?ax46 ?ix46 ?lx46 ?ccx46 ?kx46 ?ax47 ?ix47 ?lx47 ?ccx47 ?kx47 ?fix47 ?nqx47 ?sfx47 ?ax48 ?ix48 ?lx48 ?ccx48 ?kx48 ?ax49 ?ix49 ?lx49 ?ccx49 ?kx49 ?fix49 ?nqx49 ?sfx49 ?ax50 ?ix50 ?lx50 ?ccx50 ?kx50 ?ax51 ?ix51 ?lx51 ?ccx51 ?kx51 ?ax52 ?ix52 ?lx52 ?ccx52 ?kx52 ?fix52 ?nqx52 ?sfx52 ?ax53 ?lx53 ?ccx53 ?kx53 ?ax54 ?ix54 ?lx54 ?ccx54 ?kx54 ?kw0x54 ?ax55 ?ix55 ?lx55 ?ccx55 ?kx55 ?ax56 ?lx56 ?ccx56 ?kx56 ?zL_LE ?vL_LE ?aC_NoCut ?xL_NoCut ?sa_NoCut ?ga_NoCut ?gg_NoCut ?no_NoCut ?hd_NoCut ?kc_NoCut ?ex_NoCut ?ty_NoCut ?ic_NoCut ?ai_NoCut ?ti_NoCut ?li_NoCut ?ci_NoCut ?ki_NoCut ?aC_UnitError ?br_UnitError ?bg_UnitError ?au_UnitError ?aC_BadCuts ?xL_BadCuts ?sa_BadCuts ?ga_BadCuts ?gg_BadCuts ?no_BadCuts ?hd_BadCuts ?kc_BadCuts ?ex_BadCuts ?ty_BadCuts ?ic_BadCuts ?ai_BadCuts ?ti_BadCuts ?li_BadCuts ?ci_BadCuts ?ki_BadCuts ?aC_NothingToUndo ?ev_NothingToUndo ?kc_NothingToUndo ?ex_NothingToUndo ?ty_NothingToUndo ?ic_NothingToUndo ?aC_NothingToRedo ?ev_NothingToRedo ?kc_NothingToRedo ?ex_NothingToRedo ?ty_NothingToRedo ?ic_NothingToRedo ?sb_NothingToUndo_NothingToUndo ?sb_NothingToRedo_NothingToUndo ?sb_NothingToRedo_NothingToRedo ?sb_NoCut_NoCut ?sb_BadCuts_NoCut ?sb_BadCuts_BadCuts ?z_n_range ?z_n_tuple ?z_n_len ?z_n_isinstance ?z_n_int ?z_n_bool ?z_c_MAX_STATES ?z_c_MAX_LETTERS ?z_c_MAX_CUT ?z_n_str ?z_c_LETTERS_limits ?z_n_enumerate ?z_c_MAX_CUTS ?z_c_MAX_COUNT ?z_c_MAX_EDITS ?z_n_repr ?z_n_abs
    (case ax0 => k_is); (case lx0 => k_is); (case ccx0 => k_is); (case kx0 => k_is); (case ax1 => k_is); (case lx1 => k_is); (case ccx1 => k_is); (case kx1 => k_is); (case ax2 => k_is); (case lx2 => k_is); (case ccx2 => k_is); (case kx2 => k_is); (case ax3 => k_is); (case lx3 => k_is); (case ccx3 => k_is); (case kx3 => k_is); (case ax4 => k_is); (case lx4 => k_is); (case ccx4 => k_is); (case kx4 => k_is); (case ax5 => k_is); (case lx5 => k_is); (case ccx5 => k_is); (case kx5 => k_is); (case ax6 => k_is); (case lx6 => k_is); (case ccx6 => k_is); (case kx6 => k_is); (case ax7 => k_is); (case lx7 => k_is); (case ccx7 => k_is); (case kx7 => k_is); (case ax8 => k_is); (case lx8 => k_is); (case ccx8 => k_is); (case kx8 => k_is); (case ax9 => k_is); (case lx9 => k_is); (case ccx9 => k_is); (case kx9 => k_is); (case ax10 => k_is); (case lx10 => k_is); (case ccx10 => k_is); (case kx10 => k_is); (case ax11 => k_is); (case lx11 => k_is); (case ccx11 => k_is); (case kx11 => k_is); (case ax12 => k_is); (case lx12 => k_is); (case ccx12 => k_is); (case kx12 => k_is); (case ax13 => k_is); (case lx13 => k_is); (case ccx13 => k_is); (case kx13 => k_is); (case ax14 => k_is); (case lx14 => k_is); (case ccx14 => k_is); (case kx14 => k_is); (case ax15 => k_is); (case lx15 => k_is); (case ccx15 => k_is); (case kx15 => k_is); (case ax16 => k_is); (case lx16 => k_is); (case ccx16 => k_is); (case kx16 => k_is); (case ax17 => k_is); (case lx17 => k_is); (case ccx17 => k_is); (case kx17 => k_is); (case ax18 => k_is); (case lx18 => k_is); (case ccx18 => k_is); (case kx18 => k_is); (case ax19 => k_is); (case lx19 => k_is); (case ccx19 => k_is); (case kx19 => k_is); (case ax20 => k_is); (case lx20 => k_is); (case ccx20 => k_is); (case kx20 => k_is); (case aC_Bench => k_is); (case pg_Bench => k_is); (case hd_Bench => k_is); (case po_Bench => k_is); (case sa_Bench => k_is); (case mk_Bench => k_is); (case kc_Bench => k_is); (case nf0_Bench => k_is); (case nf1_Bench => k_is); (case nf2_Bench => k_is); (case nf3_Bench => k_is); (case nf4_Bench => k_is); (case nf5_Bench => k_is); (case nf6_Bench => k_is); (case ax21 => k_is); (case ix21 => k_is); (case lx21 => k_is); (case dl_x21 => k_is); (case ccx21 => k_is); (case kx21 => k_is); (case ax22 => k_is); (case lx22 => k_is); (case ccx22 => k_is); (case kx22 => k_is); (case ax23 => k_is); (case lx23 => k_is); (case ccx23 => k_is); (case kx23 => k_is); (case ax24 => k_is); (case lx24 => k_is); (case ccx24 => k_is); (case kx24 => k_is); (case ax25 => k_is); (case lx25 => k_is); (case ccx25 => k_is); (case kx25 => k_is); (case ax26 => k_is); (case lx26 => k_is); (case ccx26 => k_is); (case kx26 => k_is); (case ax27 => k_is); (case ix27 => k_is); (case lx27 => k_is); (case ccx27 => k_is); (case kx27 => k_is); (case ax28 => k_is); (case ix28 => k_is); (case lx28 => k_is); (case ccx28 => k_is); (case kx28 => k_is); (case ax29 => k_is); (case ix29 => k_is); (case lx29 => k_is); (case ccx29 => k_is); (case kx29 => k_is); (case ax30 => k_is); (case ix30 => k_is); (case lx30 => k_is); (case ccx30 => k_is); (case kx30 => k_is); (case ax31 => k_is); (case lx31 => k_is); (case ccx31 => k_is); (case kx31 => k_is); (case ax32 => k_is); (case lx32 => k_is); (case ccx32 => k_is); (case kx32 => k_is); (case ax33 => k_is); (case lx33 => k_is); (case ccx33 => k_is); (case kx33 => k_is); (case ax34 => k_is); (case ix34 => k_is); (case lx34 => k_is); (case ccx34 => k_is); (case kx34 => k_is); (case fix34 => k_is); (case nqx34 => k_is); (case sfx34 => k_is); (case ax35 => k_is); (case lx35 => k_is); (case ccx35 => k_is); (case kx35 => k_is); (case ax36 => k_is); (case lx36 => k_is); (case ccx36 => k_is); (case kx36 => k_is); (case ax37 => k_is); (case lx37 => k_is); (case ccx37 => k_is); (case kx37 => k_is); (case ax38 => k_is); (case lx38 => k_is); (case ccx38 => k_is); (case kx38 => k_is); (case ax39 => k_is); (case ix39 => k_is); (case lx39 => k_is); (case ccx39 => k_is); (case kx39 => k_is); (case ax40 => k_is); (case ix40 => k_is); (case lx40 => k_is); (case ccx40 => k_is); (case kx40 => k_is); (case ax41 => k_is); (case ix41 => k_is); (case lx41 => k_is); (case ccx41 => k_is); (case kx41 => k_is); (case ax42 => k_is); (case lx42 => k_is); (case ccx42 => k_is); (case kx42 => k_is); (case ax43 => k_is); (case lx43 => k_is); (case ccx43 => k_is); (case kx43 => k_is); (case ax44 => k_is); (case lx44 => k_is); (case ccx44 => k_is); (case kx44 => k_is); (case ax45 => k_is); (case ix45 => k_is); (case lx45 => k_is); (case ccx45 => k_is); (case kx45 => k_is); (case ax46 => k_is); (case ix46 => k_is); (case lx46 => k_is); (case ccx46 => k_is); (case kx46 => k_is); (case ax47 => k_is); (case ix47 => k_is); (case lx47 => k_is); (case ccx47 => k_is); (case kx47 => k_is); (case fix47 => k_is); (case nqx47 => k_is); (case sfx47 => k_is); (case ax48 => k_is); (case ix48 => k_is); (case lx48 => k_is); (case ccx48 => k_is); (case kx48 => k_is); (case ax49 => k_is); (case ix49 => k_is); (case lx49 => k_is); (case ccx49 => k_is); (case kx49 => k_is); (case fix49 => k_is); (case nqx49 => k_is); (case sfx49 => k_is); (case ax50 => k_is); (case ix50 => k_is); (case lx50 => k_is); (case ccx50 => k_is); (case kx50 => k_is); (case ax51 => k_is); (case ix51 => k_is); (case lx51 => k_is); (case ccx51 => k_is); (case kx51 => k_is); (case ax52 => k_is); (case ix52 => k_is); (case lx52 => k_is); (case ccx52 => k_is); (case kx52 => k_is); (case fix52 => k_is); (case nqx52 => k_is); (case sfx52 => k_is); (case ax53 => k_is); (case lx53 => k_is); (case ccx53 => k_is); (case kx53 => k_is); (case ax54 => k_is); (case ix54 => k_is); (case lx54 => k_is); (case ccx54 => k_is); (case kx54 => k_is); (case kw0x54 => k_is); (case ax55 => k_is); (case ix55 => k_is); (case lx55 => k_is); (case ccx55 => k_is); (case kx55 => k_is); (case ax56 => k_is); (case lx56 => k_is); (case ccx56 => k_is); (case kx56 => k_is); (case zL_LE => k_is); (case vL_LE => k_is); (case aC_NoCut => k_is); (case xL_NoCut => k_is); (case sa_NoCut => k_is); (case ga_NoCut => k_is); (case gg_NoCut => k_is); (case no_NoCut => k_is); (case hd_NoCut => k_is); (case kc_NoCut => k_is); (case ex_NoCut => k_is); (case ty_NoCut => k_is); (case ic_NoCut => k_is); (case ai_NoCut => k_is); (case ti_NoCut => k_is); (case li_NoCut => k_is); (case ci_NoCut => k_is); (case ki_NoCut => k_is); (case aC_UnitError => k_is); (case br_UnitError => k_is); (case bg_UnitError => k_is); (case au_UnitError => k_is); (case aC_BadCuts => k_is); (case xL_BadCuts => k_is); (case sa_BadCuts => k_is); (case ga_BadCuts => k_is); (case gg_BadCuts => k_is); (case no_BadCuts => k_is); (case hd_BadCuts => k_is); (case kc_BadCuts => k_is); (case ex_BadCuts => k_is); (case ty_BadCuts => k_is); (case ic_BadCuts => k_is); (case ai_BadCuts => k_is); (case ti_BadCuts => k_is); (case li_BadCuts => k_is); (case ci_BadCuts => k_is); (case ki_BadCuts => k_is); (case aC_NothingToUndo => k_is); (case ev_NothingToUndo => first | k_is | exact (by kernel_rfl)); (case kc_NothingToUndo => k_is); (case ex_NothingToUndo => k_is); (case ty_NothingToUndo => k_is); (case ic_NothingToUndo => k_is); (case aC_NothingToRedo => k_is); (case ev_NothingToRedo => first | k_is | exact (by kernel_rfl)); (case kc_NothingToRedo => k_is); (case ex_NothingToRedo => k_is); (case ty_NothingToRedo => k_is); (case ic_NothingToRedo => k_is); (case sb_NothingToUndo_NothingToUndo => first | rfl | k_is); (case sb_NothingToRedo_NothingToUndo => first | rfl | k_is); (case sb_NothingToRedo_NothingToRedo => first | rfl | k_is); (case sb_NoCut_NoCut => first | rfl | k_is); (case sb_BadCuts_NoCut => first | rfl | k_is); (case sb_BadCuts_BadCuts => first | rfl | k_is); (case z_n_range => k_is); (case z_n_tuple => k_is); (case z_n_len => k_is); (case z_n_isinstance => k_is); (case z_n_int => k_is); (case z_n_bool => k_is); (case z_c_MAX_STATES => k_is); (case z_c_MAX_LETTERS => k_is); (case z_c_MAX_CUT => k_is); (case z_n_str => k_is); (case z_c_LETTERS_limits => k_is); (case z_n_enumerate => k_is); (case z_c_MAX_CUTS => k_is); (case z_c_MAX_COUNT => k_is); (case z_c_MAX_EDITS => k_is); (case z_n_repr => k_is); (case z_n_abs => k_is)
