import PyProof.Rows.All
import Wide.All
import OpenK.AllK
import Wide.FinOn
import KE.KStateDown
import Lean
import HandS.Base
import HandS.Call
import HandS.Ends
import HandS.More
import HandS.Words
import HandS.WordsExc
import HandS.Defaults
import HandS.Head0
import HandS.Head1
import HandS.Head2
import HandS.HeadEnd
import HandS.HeadHook1
import HandS.HeadHook2
import HandS.HeadHook3
import HandS.HeadHook4
import HandS.HeadWalk
import HandS.EndTab
import HandS.ForMost
import HandS.AnyAll
import KE.KeyNested
import KE.KDictKeyed
import KE.KDictWalk
import HandS.Star
import HandS.TupAny
import HandS.TupMul
import HandS.IsInst
import KE.DataEq
import KE.DataCmp
import KE.KDictDisplayH
import HandS.SetFor
import HandS.Zip
import KE.DataMinMax
import KE.SortData
import PyProof.SeqIndex
import HandS.Deep
import HandS.SortInts
import KE.GoesMore
import HandS.Conv
import HandS.Comp
import HandS.Codes
import HandS.Style
import KE.GoesEnum
import HandS.GenOver
import PyProof.GenQ
import PySem.Challenge.RW_starlands_k08_whole_worths
set_option Elab.async false
section
set_option Elab.async false
set_option linter.all false
set_option maxRecDepth 100000
set_option maxHeartbeats 0
namespace K08
open PySem PySem.Spec PyProof.Rows L2
def top (i : Nat) : Stmt := PySem.Challenge.pw_starlands_k08_whole_worths.main.body.getD i (.Pass ⟨0, 0, 0, 0⟩)
def df (i : Nat) (x : Str) : He.DefD := ⟨(x, none), x, x, defArgs (top i), defBody (top i), defScope (top i), [], []⟩
def fn : List He.DefD := [df 10 "is_in", df 11 "need_island", df 12 "near", df 13 "length_of", df 14 "hangs", df 15 "held", df 16 "are_cells", df 17 "is_map", df 18 "need_map", df 19 "lands_of",
  df 22 "is_made", df 23 "all_takings", df 24 "taken", df 26 "all_of_class", df 29 "are_values", df 30 "need_valued", df 31 "worth_of", df 32 "worth", df 33 "best_of_class", df 34 "best_in_class",
  df 35 "shows_best_in_class", df 36 "need_all", df 37 "arm_bests", df 38 "best_for_hub", df 39 "best_of_all", df 40 "best_map", df 41 "shows_best_map", df 42 "climb",
  df 44 "_law_taken", df 45 "_law_pick", df 46 "_law_alike", df 47 "_law_near", df 48 "_law_hangs", df 49 "_law_map", df 50 "_law_takings", df 51 "_law_behind", df 52 "_law_from", df 55 "_law_table", df 56 "_law_worth", df 57 "_law_maps", df 58 "law"]
def fa : List He.Fa := [.glo "is_in", .glo "need_island", .glo "near", .glo "length_of", .glo "hangs", .glo "held", .glo "are_cells", .glo "is_map", .glo "need_map", .glo "lands_of",
  .glo "is_made", .glo "all_takings", .glo "taken", .glo "all_of_class", .glo "are_values", .glo "need_valued", .glo "worth_of", .glo "worth", .glo "best_of_class", .glo "best_in_class",
  .glo "shows_best_in_class", .glo "need_all", .glo "arm_bests", .glo "best_for_hub", .glo "best_of_all", .glo "best_map", .glo "shows_best_map", .glo "climb",
  .glo "_law_taken", .glo "_law_pick", .glo "_law_alike", .glo "_law_near", .glo "_law_hangs", .glo "_law_map", .glo "_law_takings", .glo "_law_behind", .glo "_law_from", .glo "_law_table", .glo "_law_worth", .glo "_law_maps", .glo "law",
  .free "len", .free "range", .free "isinstance", .free "int", .free "bool", .free "tuple", .free "list", .free "str", .free "sorted", .free "max", .free "sum", .free "all", .free "any", .free "set", .free "enumerate",
  .int "LEAST_ARMS" 3, .int "MOST_ARMS" 4, .int "MOST_LENGTH" 4, .int "MOST_ROW" 40, .int "MOST_VALUE" 100]
def tf : List He.Defn := [("are_cells", none), ("is_made", none), ("are_values", none), ("worth_of", none), ("best_for_hub", none)]
abbrev R : PySem.W.OpenRow := PySem.W.OpenLaw.row PySem.Challenge.rw_starlands_k08_whole_worths
abbrev hk : PySem.W.Hook := He.hookX 4 fa fn [] tf (fun _ => true)
def ob (s : PySem.W.SharedT) : He.AlX := He.obsX 4 fa fn [] tf (fun _ => true) (HandSHeadRun.getT s)
theorem ob_eq (s : PySem.W.SharedT) : ob s = hk.obs s.abs := He.obsX_eq (HandSHeadRun.getT_eq s)
def names1 : List PySem.Str := ["__name__", "LandError", "BadArms", "BadLength", "BadMap", "BadValues", "LEAST_ARMS", "MOST_ARMS", "MOST_LENGTH", "is_in", "need_island", "near", "length_of", "hangs", "held", "are_cells", "is_map", "need_map", "lands_of", "MOST_ROW", "is_made", "all_takings", "taken", "all_of_class", "MOST_VALUE", "are_values"]
def names2 : List PySem.Str := ["need_valued", "worth_of", "worth", "best_of_class", "best_in_class", "shows_best_in_class", "need_all", "arm_bests", "best_for_hub", "best_of_all", "best_map", "shows_best_map", "climb", "_law_taken", "_law_pick", "_law_alike", "_law_near", "_law_hangs", "_law_map", "_law_takings", "_law_behind", "_law_from", "_law_walk", "_law_island", "_law_table", "_law_worth", "_law_maps"]
def names : List PySem.Str := names1 ++ names2
theorem run (w : World) : HandSHeadRun.RunEq R (PySem.W.view R.prog [58]) hk ob 6000 names w := by
  intro os
  kernel_rfl
end K08
end

section
set_option Elab.async false
set_option linter.all false
set_option maxRecDepth 100000
set_option maxHeartbeats 4000000
/-! FD1: values as data, the relation of names to data, readings as functions of data. -/
namespace FD
open PySem PySem.Spec PyProof.Rows L2

/-- what a name may stand for: data; a dict by its keys and data -/
inductive DV where
  | dat (d : PyData)
  | dct (kvs : List (NestedKey × PyData))
  | adr (a : Addr)

/-- the fixed part: text, world, written part, the tables of code objects -/
structure Fx where
  P : Program
  w : World
  T : List Addr
abbrev fx (X : Cx) (T : List Addr) : Fx := ⟨X.prog, X.w, T⟩

def dctO (P : Program) (w : World) (a : Addr) (o : Obj) (xs : List (NestedKey × Addr × Value)) : HO :=
  .ext fun h => h.get? a = some o ∧ o.ExactDict ∧ ∃ es ep, o.data = .dict es ep ∧ es.toList = xs.map (entryOfKey (nestedKind P w)) ∧ (xs.map (·.1)).Nodup

def Sub (S H : Hp) : Prop := ∀ a o, S a = some o → H a = some o
theorem Sub.refl (S : Hp) : Sub S S := fun _ _ h => h
theorem Sub.trans {A B C : Hp} (x : Sub A B) (y : Sub B C) : Sub A C := fun a o h => y a o (x a o h)

mutual
/-- the value v is the data d, in the heap S (no texts, no dicts) -/
inductive Dq (S : Hp) : V → PyData → Prop
  | non : Dq S .non .none
  | bl (b : Bool) : Dq S (.bl b) (.bool b)
  | int (i : Int) : Dq S (.int i) (.int i)
  | lst {a : Addr} {xs : List V} {ds : List PyData} : S a = some (.lst xs) → DqAll S xs ds → Dq S (.ref a) (.list ds)
  | tup {a : Addr} {xs : List V} {ds : List PyData} : S a = some (.tup xs) → DqAll S xs ds → Dq S (.ref a) (.tuple ds)
inductive DqAll (S : Hp) : List V → List PyData → Prop
  | nil : DqAll S [] []
  | cons {v : V} {vs : List V} {d : PyData} {ds : List PyData} : Dq S v d → DqAll S vs ds → DqAll S (v :: vs) (d :: ds)
end
mutual
theorem Dq.dp {K : PySem.W.Frag} {S : Hp} : ∀ (d : PyData) (v : V), Dq S v d → Dp K S v d
  | .none, _, h => by cases h; exact .non
  | .bool _, _, h => by cases h; exact .bl _
  | .int _, _, h => by cases h; exact .int _
  | .str _, _, h => by cases h
  | .list ds, _, h => by
    cases h with
    | lst h1 h2 => exact .lst (SqL.of h1) (DqAll.dp ds _ h2)
  | .tuple ds, _, h => by
    cases h with
    | tup h1 h2 => exact .tup (SqT.of h1) (DqAll.dp ds _ h2)
  | .dict _, _, h => by cases h
theorem DqAll.dp {K : PySem.W.Frag} {S : Hp} : ∀ (ds : List PyData) (vs : List V), DqAll S vs ds → DpAll K S vs ds
  | [], _, h => by cases h; exact .nil
  | d :: ds, _, h => by
    cases h with
    | cons h1 h2 => exact .cons (Dq.dp d _ h1) (DqAll.dp ds _ h2)
end
def isKey (k : NestedKey) : Bool := decide (k.depth ≤ 8) && (match k with | .tup _ => true | _ => false)
def DPairs (S : Hp) (xs : List (NestedKey × Addr × Value)) (kvs : List (NestedKey × PyData)) : Prop :=
  Paired (fun x p => x.1 = p.1 ∧ isKey p.1 = true ∧ Dq S (.ref x.2.1) p.1.data ∧ ∃ v, RelV v x.2.2 ∧ Dq S v p.2) xs kvs

/-- the object at a holds the data x, its parts in the stable heap S -/
def ObjD (E : Fx) (S : Hp) (a : Addr) : DV → HO → Prop
  | .dat (.list ds), o => ∃ vs, o = .lst vs ∧ DqAll S vs ds
  | .dct kvs, o => (a == sysModules) = false ∧ ∃ ob xs, o = dctO E.P E.w a ob xs ∧ DPairs S xs kvs
  | _, _ => False
/-- a value that is the data x for good -/
def Dn (E : Fx) (S : Hp) (v : V) : DV → Prop
  | .dat d => Dq S v d
  | .dct kvs => ∃ a o, v = .ref a ∧ S a = some o ∧ ObjD E S a (.dct kvs) o
  | .adr a => v = .ref a

/-! ### growth -/
mutual
theorem Dq.sub {S H : Hp} (z : Sub S H) : ∀ (d : PyData) (v : V), Dq S v d → Dq H v d
  | .none, _, h => by cases h; exact .non
  | .bool _, _, h => by cases h; exact .bl _
  | .int _, _, h => by cases h; exact .int _
  | .str _, _, h => by cases h
  | .list ds, _, h => by
    cases h with
    | lst h1 h2 => exact .lst (z _ _ h1) (DqAll.sub z ds _ h2)
  | .tuple ds, _, h => by
    cases h with
    | tup h1 h2 => exact .tup (z _ _ h1) (DqAll.sub z ds _ h2)
  | .dict _, _, h => by cases h
theorem DqAll.sub {S H : Hp} (z : Sub S H) : ∀ (ds : List PyData) (vs : List V), DqAll S vs ds → DqAll H vs ds
  | [], _, h => by cases h; exact .nil
  | d :: ds, _, h => by
    cases h with
    | cons h1 h2 => exact .cons (Dq.sub z d _ h1) (DqAll.sub z ds _ h2)
end
theorem DPairs.sub {S H : Hp} (z : Sub S H) {xs : List (NestedKey × Addr × Value)} {kvs : List (NestedKey × PyData)} (h : DPairs S xs kvs) : DPairs H xs kvs :=
  Paired.mapP h fun _ _ ⟨h1, h2, h3, v, h4, h5⟩ => ⟨h1, h2, Dq.sub z _ _ h3, v, h4, Dq.sub z _ _ h5⟩
theorem ObjD.sub {E : Fx} {S H : Hp} (z : Sub S H) {a : Addr} {x : DV} {o : HO} (h : ObjD E S a x o) : ObjD E H a x o := by
  cases x with
  | dat d =>
    cases d with
    | list ds => obtain ⟨vs, e, h⟩ := h; exact ⟨vs, e, DqAll.sub z _ _ h⟩
    | _ => exact h.elim
  | dct kvs => obtain ⟨h1, ob, xs, e, h⟩ := h; exact ⟨h1, ob, xs, e, h.sub z⟩
  | adr b => exact h.elim
theorem Dn.sub {E : Fx} {S H : Hp} (z : Sub S H) {v : V} {x : DV} (h : Dn E S v x) : Dn E H v x := by
  cases x with
  | dat d => exact Dq.sub z _ _ h
  | dct kvs => obtain ⟨a, o, h1, h2, h3⟩ := h; exact ⟨a, o, h1, z _ _ h2, h3.sub z⟩
  | adr b => exact h

structure Grow (T : List Addr) (S H S' H' : Hp) : Prop where
  ss : Sub S S'
  sh : Sub S' H'
  hh : ∀ a o, a ∉ T → H a = some o → H' a = some o
  nw : ∀ a o, H a = some o → S a = none → S' a = none
  tb : ∀ P ∈ T, GxR.TabG H' P
theorem Grow.refl {T : List Addr} {S H : Hp} (h : Sub S H) (t : ∀ P ∈ T, GxR.TabG H P) : Grow T S H S H := ⟨Sub.refl S, h, fun _ _ _ e => e, fun _ _ _ e => e, t⟩
theorem TabG.some {H : Hp} {P : Addr} (h : GxR.TabG H P) : ∃ o, H P = some o := let ⟨_, e, _⟩ := h; ⟨_, e⟩
theorem Grow.trans {T : List Addr} {S H S1 H1 S2 H2 : Hp} (a : Grow T S H S1 H1) (b : Grow T S1 H1 S2 H2) : Grow T S H S2 H2 where
  ss := a.ss.trans b.ss
  sh := b.sh
  hh := fun c o n e => b.hh c o n (a.hh c o n e)
  nw := fun c o e n => by
    have n1 := a.nw c o e n
    by_cases hc : c ∈ T
    · obtain ⟨u, hu⟩ := TabG.some (a.tb c hc)
      exact b.nw c u hu n1
    · exact b.nw c o (a.hh c o hc e) n1
  tb := b.tb
/-- what was free before is free ahead of it -/
theorem Grow.free {T : List Addr} {S H S' H' : Hp} (g : Grow T S H S' H') {a : Addr} (h : H' a = none) : H a = none := by
  cases e : H a with
  | none => rfl
  | some o =>
    by_cases hc : a ∈ T
    · obtain ⟨u, hu⟩ := TabG.some (g.tb a hc)
      rw [h] at hu; cases hu
    · rw [g.hh a o hc e] at h; cases h
/-- a new object, for good -/
theorem Grow.lay {T : List Addr} {S H : Hp} {a : Addr} {o : HO} (h : Sub S H) (t : ∀ P ∈ T, GxR.TabG H P) (n : H a = none) : Grow T S H (upd S a o) (upd H a o) where
  ss := fun b u e => by
    rw [upd_ne (ne_of_none (h b u e) n)]; exact e
  sh := fun b u e => by
    by_cases hb : b = a
    · subst hb; rw [upd_same] at e ⊢; exact e
    · rw [upd_ne hb] at e ⊢; exact h b u e
  hh := fun b u _ e => by rw [upd_ne (ne_of_none e n)]; exact e
  nw := fun b u e m => by rw [upd_ne (ne_of_none e n)]; exact m
  tb := fun P hP => by
    obtain ⟨ps, e, r⟩ := t P hP
    exact ⟨ps, by rw [upd_ne (ne_of_none e n)]; exact e, r⟩
/-- a new object, not for good -/
theorem Grow.lay0 {T : List Addr} {S H : Hp} {a : Addr} {o : HO} (h : Sub S H) (t : ∀ P ∈ T, GxR.TabG H P) (n : H a = none) : Grow T S H S (upd H a o) where
  ss := Sub.refl S
  sh := fun b u e => by rw [upd_ne (ne_of_none (h b u e) n)]; exact h b u e
  hh := fun b u _ e => by rw [upd_ne (ne_of_none e n)]; exact e
  nw := fun _ _ _ m => m
  tb := fun P hP => by
    obtain ⟨ps, e, r⟩ := t P hP
    exact ⟨ps, by rw [upd_ne (ne_of_none e n)]; exact e, r⟩

/-! ### modes of a value -/
inductive M where
  | val | own | rd
def VOk (E : Fx) (m : M) (S H0 H : Hp) (v : V) (x : DV) : Prop := match m with
  | .val => Dn E S v x
  | .own => ∃ a o, v = .ref a ∧ H0 a = none ∧ S a = none ∧ H a = some o ∧ ObjD E S a x o
  | .rd => Dn E S v x ∨ ∃ a o, v = .ref a ∧ S a = none ∧ H a = some o ∧ ObjD E S a x o
theorem ObjD.noTab {E : Fx} {S : Hp} {a : Addr} {x : DV} {o : HO} (h : ObjD E S a x o) : ∀ ps, o ≠ .tbl ps := by
  intro ps e
  subst e
  cases x with
  | dat d =>
    cases d with
    | list ds => obtain ⟨vs, e, _⟩ := h; cases e
    | _ => exact h
  | dct kvs => obtain ⟨_, ob, xs, e, _⟩ := h; cases e
  | adr b => exact h
theorem notTab {T : List Addr} {H : Hp} (t : ∀ P ∈ T, GxR.TabG H P) {a : Addr} {o : HO} (e : H a = some o) (n : ∀ ps, o ≠ .tbl ps) : a ∉ T := fun h => by
  obtain ⟨ps, e2, _⟩ := t a h
  rw [e] at e2
  exact n ps (Option.some.inj e2)
theorem VOk.grow {E : Fx} {m : M} {S H0 H S' H' : Hp} {v : V} {x : DV} (t : ∀ P ∈ E.T, GxR.TabG H P) (h : VOk E m S H0 H v x) (g : Grow E.T S H S' H') : VOk E m S' H0 H' v x := by
  cases m with
  | val => exact Dn.sub g.ss h
  | own =>
    obtain ⟨a, o, h1, h2, h3, h4, h5⟩ := h
    exact ⟨a, o, h1, h2, g.nw a o h4 h3, g.hh a o (notTab t h4 h5.noTab) h4, h5.sub g.ss⟩
  | rd =>
    rcases h with h | ⟨a, o, h1, h3, h4, h5⟩
    · exact .inl (Dn.sub g.ss h)
    · exact .inr ⟨a, o, h1, g.nw a o h4 h3, g.hh a o (notTab t h4 h5.noTab) h4, h5.sub g.ss⟩
theorem VOk.back {E : Fx} {m : M} {S H0 H1 H : Hp} {v : V} {x : DV} (h : VOk E m S H1 H v x) (f : ∀ a, H1 a = none → H0 a = none) : VOk E m S H0 H v x := by
  cases m with
  | val => exact h
  | own => obtain ⟨a, o, h1, h2, r⟩ := h; exact ⟨a, o, h1, f a h2, r⟩
  | rd => exact h

/-! ### names and data -/
abbrev DE := List (Option (Bool × DV))
structure RelE (E : Fx) (env : DE) (σ : L2.St) (S H : Hp) : Prop where
  len : env.length = σ.length
  sh : Sub S H
  tb : ∀ P ∈ E.T, GxR.TabG H P ∧ S P = none
  val : ∀ (i : Nat) (x : DV), env[i]? = some (some (false, x)) → ∃ v, σ[i]? = some (some v) ∧ Dn E S v x
  own : ∀ (i : Nat) (x : DV), env[i]? = some (some (true, x)) → ∃ a o, σ[i]? = some (some (.ref a)) ∧ S a = none ∧ H a = some o ∧ ObjD E S a x o
  uniq : ∀ (i j : Nat) (x y : DV) (a : Addr), env[i]? = some (some (true, x)) → env[j]? = some (some (true, y)) → σ[i]? = some (some (.ref a)) → σ[j]? = some (some (.ref a)) → i = j
theorem RelE.tabs {E : Fx} {env : DE} {σ : L2.St} {S H : Hp} (r : RelE E env σ S H) : ∀ P ∈ E.T, GxR.TabG H P := fun P h => (r.tb P h).1
theorem RelE.grow {E : Fx} {env : DE} {σ : L2.St} {S H S' H' : Hp} (r : RelE E env σ S H) (g : Grow E.T S H S' H') : RelE E env σ S' H' where
  len := r.len
  sh := g.sh
  tb := fun P h => ⟨g.tb P h, by
    obtain ⟨o, e⟩ := TabG.some (r.tb P h).1
    exact g.nw P o e (r.tb P h).2⟩
  val := fun i x e => by
    obtain ⟨v, h1, h2⟩ := r.val i x e
    exact ⟨v, h1, h2.sub g.ss⟩
  own := fun i x e => by
    obtain ⟨a, o, h1, h2, h3, h4⟩ := r.own i x e
    exact ⟨a, o, h1, g.nw a o h3 h2, g.hh a o (notTab r.tabs h3 h4.noTab) h3, h4.sub g.ss⟩
  uniq := r.uniq
theorem RelE.refl {E : Fx} {env : DE} {σ : L2.St} {S H : Hp} (r : RelE E env σ S H) : Grow E.T S H S H := Grow.refl r.sh r.tabs

/-! ### readings as functions of data -/
def tE (E : Fx) (m : M) (f : DE → Option DV) : TE := fun σ H Q => ∃ S env x, RelE E env σ S H ∧ f env = some x ∧ ∀ v S' H', Grow E.T S H S' H' → VOk E m S' H H' v x → Q v H'
def tT (E : Fx) (f : DE → Option Bool) : TT := fun σ H Q => ∃ S env b, RelE E env σ S H ∧ f env = some b ∧ ∀ S' H', Grow E.T S H S' H' → Q b H'
inductive VsOk (E : Fx) (S H0 H : Hp) : List M → List V → List DV → Prop
  | nil : VsOk E S H0 H [] [] []
  | cons {m ms v vs x xs} : VOk E m S H0 H v x → VsOk E S H0 H ms vs xs → VsOk E S H0 H (m :: ms) (v :: vs) (x :: xs)
def tA (E : Fx) (ms : List M) (f : DE → Option (List DV)) : TA := fun σ H Q => ∃ S env xs, RelE E env σ S H ∧ f env = some xs ∧ ∀ vs S' H', Grow E.T S H S' H' → VsOk E S' H H' ms vs xs → Q vs H'

theorem VsOk.grow {E : Fx} {S H0 H S' H' : Hp} (t : ∀ P ∈ E.T, GxR.TabG H P) (g : Grow E.T S H S' H') : ∀ {ms : List M} {vs : List V} {xs : List DV}, VsOk E S H0 H ms vs xs → VsOk E S' H0 H' ms vs xs
  | _, _, _, .nil => .nil
  | _, _, _, .cons h r => .cons (h.grow t g) (r.grow t g)
theorem VsOk.back {E : Fx} {S H0 H1 H : Hp} (f : ∀ a, H1 a = none → H0 a = none) : ∀ {ms : List M} {vs : List V} {xs : List DV}, VsOk E S H1 H ms vs xs → VsOk E S H0 H ms vs xs
  | _, _, _, .nil => .nil
  | _, _, _, .cons h r => .cons (h.back f) (r.back f)

section
variable {X : Cx} {E : Fx} {m m1 m2 : M} {f g : DE → Option DV}
theorem _root_.L2.PE.imp {e : Expr} {t t' : TE} (h : PE X e t) (z : ∀ σ H Q, t' σ H Q → t σ H Q) : PE X e t' := ⟨fun pins s σ H Q I q => h.run pins s σ H Q I (z σ H Q q)⟩
theorem _root_.L2.PT.imp {e : Expr} {t t' : TT} (h : PT X e t) (z : ∀ σ H Q, t' σ H Q → t σ H Q) : PT X e t' := ⟨fun pins s σ H Q I q => h.run pins s σ H Q I (z σ H Q q)⟩
theorem _root_.L2.PA.imp {es : List Expr} {t t' : TA} (h : PA X es t) (z : ∀ σ H Q, t' σ H Q → t σ H Q) : PA X es t' := ⟨fun pos pins s σ H Q I q => h.run pos pins s σ H Q I (z σ H Q q)⟩
theorem _root_.L2.PS.imp {st : Stmt} {t t' : TS} (h : PS X st t) (z : ∀ D σ H, t' D σ H → t D σ H) : PS X st t' := ⟨fun pins s σ H D I q => h.run pins s σ H D I (z D σ H q)⟩
theorem _root_.L2.PSs.imp {st : List Stmt} {t t' : TS} (h : PSs X st t) (z : ∀ D σ H, t' D σ H → t D σ H) : PSs X st t' := ⟨fun pins s σ H D I q => h.run pins s σ H D I (z D σ H q)⟩

/-- a new object is kept for good -/
theorem own_val {S H H0 S' H' : Hp} {v : V} {x : DV} (g : Grow E.T S H S' H') (hv : VOk E .own S' H H' v x) (hs : ∀ P ∈ E.T, S P = none) : ∃ S'', Grow E.T S H S'' H' ∧ VOk E .val S'' H0 H' v x := by
  obtain ⟨a, o, e, h1, h2, h3, h4⟩ := hv
  subst e
  have z : Sub S' (upd S' a o) := fun b u e => by
    rw [upd_ne (fun q => by rw [q, h2] at e; cases e)]; exact e
  refine ⟨upd S' a o, ⟨g.ss.trans z, fun b u e => ?_, g.hh, fun b u e n => ?_, g.tb⟩, ?_⟩
  · by_cases hb : b = a
    · subst hb; rw [upd_same] at e; cases e; exact h3
    · rw [upd_ne hb] at e; exact g.sh b u e
  · rw [upd_ne (ne_of_none e h1)]; exact g.nw b u e n
  · cases x with
    | dat d =>
      cases d with
      | list ds =>
        obtain ⟨vs, e, h⟩ := h4
        subst e
        exact .lst upd_same (DqAll.sub z _ _ h)
      | _ => exact h4.elim
    | dct kvs => exact ⟨a, o, rfl, upd_same, h4.sub z⟩
    | adr b => exact h4.elim
theorem tE_freeze {σ : L2.St} {H : Hp} {Q : VK} (h : tE E .val f σ H Q) : tE E .own f σ H Q := by
  obtain ⟨S, env, x, r, e, k⟩ := h
  refine ⟨S, env, x, r, e, fun v S' H' g hv => ?_⟩
  obtain ⟨S'', g', hv'⟩ := own_val (H0 := H) g hv fun P hP => (r.tb P hP).2
  exact k v S'' H' g' hv'
theorem tE_rd {σ : L2.St} {H : Hp} {Q : VK} (h : tE E .rd f σ H Q) : tE E .val f σ H Q := by
  obtain ⟨S, env, x, r, e, k⟩ := h
  exact ⟨S, env, x, r, e, fun v S' H' g hv => k v S' H' g (.inl hv)⟩
/-- a new object's expression, for good -/
theorem pd_frz {e : Expr} (h : PE X e (tE E .own f)) : PE X e (tE E .val f) := h.imp fun _ _ _ q => tE_freeze q
theorem pd_rd {e : Expr} (h : PE X e (tE E .val f)) : PE X e (tE E .rd f) := h.imp fun _ _ _ q => tE_rd q

/-! ### names, constants -/
def eVar (i : Nat) : DE → Option DV := fun env => match env[i]? with
  | some (some (false, x)) => some x
  | _ => none
def eRd (i : Nat) : DE → Option DV := fun env => match env[i]? with
  | some (some (_, x)) => some x
  | _ => none
def eC (d : PyData) : DE → Option DV := fun _ => some (.dat d)
theorem eVar_some {i : Nat} {env : DE} {x : DV} (h : eVar i env = some x) : env[i]? = some (some (false, x)) := by
  unfold eVar at h
  split at h
  · cases h; assumption
  · cases h
theorem eRd_some {i : Nat} {env : DE} {x : DV} (h : eRd i env = some x) : ∃ b, env[i]? = some (some (b, x)) := by
  unfold eRd at h
  split at h
  · cases h; exact ⟨_, by assumption⟩
  · cases h
theorem pd_var {i : Nat} {x : Str} {pos : Pos} (hN : X.N[i]? = some x) (hv : Vis X.env.scope x) (hd : (x == ("__debug__" : Str)) = false := by decide) (hcd : (x == ("__classdict__" : Str)) = false := by decide) : PE X (.Name x pos) (tE E .val (eVar i)) :=
  (pe_var hN hv hd hcd).imp fun σ H Q ⟨S, env, y, r, e, k⟩ => by
    obtain ⟨v, h1, h2⟩ := r.val i y (eVar_some e)
    exact ⟨v, h1, k v S H r.refl h2⟩
theorem pd_rdv {i : Nat} {x : Str} {pos : Pos} (hN : X.N[i]? = some x) (hv : Vis X.env.scope x) (hd : (x == ("__debug__" : Str)) = false := by decide) (hcd : (x == ("__classdict__" : Str)) = false := by decide) : PE X (.Name x pos) (tE E .rd (eRd i)) :=
  (pe_var hN hv hd hcd).imp fun σ H Q ⟨S, env, y, r, e, k⟩ => by
    obtain ⟨b, e⟩ := eRd_some e
    cases b with
    | false =>
      obtain ⟨v, h1, h2⟩ := r.val i y e
      exact ⟨v, h1, k v S H r.refl (.inl h2)⟩
    | true =>
      obtain ⟨a, o, h1, h2, h3, h4⟩ := r.own i y e
      exact ⟨_, h1, k _ S H r.refl (.inr ⟨a, o, rfl, h2, h3, h4⟩)⟩
theorem tC_tE {v : V} {d : PyData} (hd : ∀ S, Dq S v d) {e : Expr} (h : PE X e (tC v)) : PE X e (tE E .val (eC d)) :=
  h.imp fun σ H Q ⟨S, env, y, r, q, k⟩ => by
    cases q
    exact k v S H r.refl (hd S)
theorem pd_int {i j pos} : PE X (.Constant (.int i) j pos) (tE E .val (eC (.int i))) := tC_tE (fun _ => .int i) pe_int
theorem pd_bl {b j pos} : PE X (.Constant (.bool b) j pos) (tE E .val (eC (.bool b))) := tC_tE (fun _ => .bl b) pe_bl
theorem pd_non {j pos} : PE X (.Constant .none j pos) (tE E .val (eC .none)) := tC_tE (fun _ => .non) pe_non
theorem pd_globI {x : Str} {i : Int} {t : Tok} {pos : Pos} (hg : Gl X x) (hm : X.mg x = some (.int i t)) (hd : (x == ("__debug__" : Str)) = false := by decide) : PE X (.Name x pos) (tE E .val (eC (.int i))) :=
  tC_tE (fun _ => .int i) (pe_glob (v := .int i) hg hm ⟨t, rfl⟩ hd)
end
end FD
end

section
set_option Elab.async false
set_option linter.all false
set_option maxRecDepth 100000
set_option maxHeartbeats 4000000
/-! FD2: expressions as functions of data: operators, comparisons, tests, displays, subscripts, slices. -/
namespace FD
open PySem PySem.Spec PyProof.Rows L2

/-! ### lists of data -/
theorem DqAll.length {S : Hp} : ∀ {ds : List PyData} {vs : List V}, DqAll S vs ds → vs.length = ds.length
  | [], _, h => by cases h; rfl
  | d :: ds, _, h => by
    cases h with
    | cons h1 h2 => rw [List.length_cons, List.length_cons, DqAll.length h2]
theorem DqAll.get {S : Hp} : ∀ {ds : List PyData} {vs : List V} {i : Nat} {d : PyData}, DqAll S vs ds → ds[i]? = some d → ∃ v, vs[i]? = some v ∧ Dq S v d
  | [], _, i, d, h, e => by cases h; simp at e
  | c :: ds, _, 0, d, h, e => by
    cases h with
    | cons h1 h2 => simp at e; subst e; exact ⟨_, rfl, h1⟩
  | c :: ds, _, i + 1, d, h, e => by
    cases h with
    | cons h1 h2 =>
      obtain ⟨v, e1, e2⟩ := DqAll.get (i := i) h2 (by simpa using e)
      exact ⟨v, by simpa using e1, e2⟩
theorem DqAll.append {S : Hp} : ∀ {ds es : List PyData} {vs ws : List V}, DqAll S vs ds → DqAll S ws es → DqAll S (vs ++ ws) (ds ++ es)
  | [], _, _, _, h, k => by cases h; exact k
  | d :: ds, _, _, _, h, k => by
    cases h with
    | cons h1 h2 => exact .cons h1 (DqAll.append h2 k)
theorem DqAll.take {S : Hp} : ∀ {ds : List PyData} {vs : List V} (n : Nat), DqAll S vs ds → DqAll S (vs.take n) (ds.take n)
  | [], _, n, h => by cases h; simp; exact .nil
  | d :: ds, _, 0, h => by simp; exact .nil
  | d :: ds, _, n + 1, h => by
    cases h with
    | cons h1 h2 => exact .cons h1 (DqAll.take n h2)
theorem DqAll.drop {S : Hp} : ∀ {ds : List PyData} {vs : List V} (n : Nat), DqAll S vs ds → DqAll S (vs.drop n) (ds.drop n)
  | [], _, n, h => by cases h; simp; exact .nil
  | d :: ds, _, 0, h => h
  | d :: ds, _, n + 1, h => by
    cases h with
    | cons h1 h2 => exact DqAll.drop n h2
theorem DqAll.rep {S : Hp} {ds : List PyData} {vs : List V} (h : DqAll S vs ds) : ∀ n : Nat, DqAll S (List.replicate n vs).flatten (List.replicate n ds).flatten
  | 0 => .nil
  | n + 1 => by
    rw [List.replicate_succ, List.replicate_succ, List.flatten_cons, List.flatten_cons]
    exact h.append (DqAll.rep h n)
theorem small {n : Nat} (h : n ≤ 100000) : n ≤ sizeLine := Nat.le_trans h (by decide)

/-! ### operators of one and two places -/
def e1 (g : DV → Option DV) (f : DE → Option DV) : DE → Option DV := fun env => (f env).bind g
def e2 (g : DV → DV → Option DV) (f1 f2 : DE → Option DV) : DE → Option DV := fun env => (f1 env).bind fun x => (f2 env).bind fun y => g x y
/-- what a rule by values has to show -/
def Step2 (E : Fx) (m1 m2 m : M) (r : R2) (g : DV → DV → Option DV) : Prop := ∀ (S H0 H : Hp) (x y : V) (dx dy d : DV) (Q : VK), Sub S H → (∀ P ∈ E.T, GxR.TabG H P ∧ S P = none) → VOk E m1 S H0 H x dx → VOk E m2 S H0 H y dy → g dx dy = some d →
  (∀ v S' H', Grow E.T S H S' H' → VOk E m S' H H' v d → Q v H') → r x y H Q
section
variable {X : Cx} {E : Fx} {m m1 m2 : M} {f f1 f2 f3 : DE → Option DV} {a b c : Expr} {pos : Pos}
theorem tE2 {r : R2} {g : DV → DV → Option DV} (hk : Step2 E m1 m2 m r g) {σ : L2.St} {H : Hp} {Q : VK} (h : tE E m (e2 g f1 f2) σ H Q) : tOp r (tE E m1 f1) (tE E m2 f2) σ H Q := by
  obtain ⟨S, env, d, rel, e, k⟩ := h
  unfold e2 at e
  obtain ⟨dx, ex, e⟩ := Option.bind_eq_some_iff.mp e
  obtain ⟨dy, ey, e⟩ := Option.bind_eq_some_iff.mp e
  refine ⟨S, env, dx, rel, ex, fun x S1 H1 g1 hx => ⟨S1, env, dy, rel.grow g1, ey, fun y S2 H2 g2 hy => ?_⟩⟩
  have r2 := (rel.grow g1).grow g2
  refine hk S2 H H2 x y dx dy d Q r2.sh r2.tb (hx.grow (rel.grow g1).tabs g2) (hy.back fun a => g1.free) e fun v S' H' g3 hv => ?_
  exact k v S' H' ((g1.trans g2).trans g3) (hv.back fun a => (g1.trans g2).free)
theorem pd_op {op : Operator} {r : R2} {g : DV → DV → Option DV} (hr : OpR X (binaryOp op) r) (hk : Step2 E m1 m2 m r g) (ha : PE X a (tE E m1 f1)) (hb : PE X b (tE E m2 f2)) : PE X (.BinOp a op b pos) (tE E m (e2 g f1 f2)) :=
  (pe_op hr ha hb).imp fun _ _ _ q => tE2 hk q
theorem pd_cmp {op : CmpOp} {r : R2} {g : DV → DV → Option DV} (hr : OpR X (compareOp op) r) (hk : Step2 E m1 m2 m r g) (ha : PE X a (tE E m1 f1)) (hb : PE X b (tE E m2 f2)) (hm : behindInMarks op b = false) : PE X (.Compare a [op] [b] pos) (tE E m (e2 g f1 f2)) :=
  (pe_cmpR hr ha hb hm).imp fun _ _ _ q => tE2 hk q
theorem pd_ix {r : R2} {g : DV → DV → Option DV} (hr : IxR X r) (hk : Step2 E m1 m2 m r g) (ha : PE X a (tE E m1 f1)) (hb : PE X b (tE E m2 f2)) (hs : PlainIx b) : PE X (.Subscript a b pos) (tE E m (e2 g f1 f2)) :=
  (pe_ix hr ha hb hs).imp fun _ _ _ q => tE2 hk q

/-! ints -/
def dI (g : Int → Int → Option PyData) : DV → DV → Option DV
  | .dat (.int i), .dat (.int j) => (g i j).map .dat
  | _, _ => none
theorem dI_some {g : Int → Int → Option PyData} {x y d : DV} (h : dI g x y = some d) : ∃ i j e, x = .dat (.int i) ∧ y = .dat (.int j) ∧ g i j = some e ∧ d = .dat e := by
  unfold dI at h
  split at h
  · obtain ⟨e, h1, h2⟩ := Option.map_eq_some_iff.mp h
    exact ⟨_, _, e, rfl, rfl, h1, h2.symm⟩
  · cases h
theorem step_I {C : Int → Int → Prop} {k : Int → Int → V} {g : Int → Int → Option PyData} (hg : ∀ i j e, g i j = some e → C i j ∧ ∀ S, Dq S (k i j) e) : Step2 E .val .val .val (rI C k) (dI g) := by
  intro S H0 H x y dx dy d Q sh tb hx hy e q
  obtain ⟨i, j, u, rfl, rfl, h1, rfl⟩ := dI_some e
  cases hx; cases hy
  obtain ⟨c, z⟩ := hg i j u h1
  exact ⟨i, j, rfl, rfl, c, q _ S H (Grow.refl sh fun P hP => (tb P hP).1) (z S)⟩
theorem step_I0 {k : Int → Int → V} {g : Int → Int → Option PyData} (hg : ∀ i j e, g i j = some e → ∀ S, Dq S (k i j) e) : Step2 E .val .val .val (rI0 k) (dI g) := by
  intro S H0 H x y dx dy d Q sh tb hx hy e q
  obtain ⟨i, j, u, rfl, rfl, h1, rfl⟩ := dI_some e
  cases hx; cases hy
  exact ⟨i, j, rfl, rfl, q _ S H (Grow.refl sh fun P hP => (tb P hP).1) (hg i j u h1 S)⟩
def dSub : DV → DV → Option DV := dI fun i j => some (.int (i - j))
def dMul : DV → DV → Option DV := dI fun i j => if -(2 ^ 64) < i ∧ i < 2 ^ 64 then some (.int (i * j)) else none
def dFdiv : DV → DV → Option DV := dI fun i j => if j ≠ 0 ∧ j.natAbs < 1073741824 then some (.int (i.fdiv j)) else none
def dMod : DV → DV → Option DV := dI fun i j => if j ≠ 0 then some (.int (i.fmod j)) else none
def dPow : DV → DV → Option DV := dI fun i j => if 0 ≤ j ∧ j ≤ 1000000 ∧ i.natAbs < 2 ^ 64 then some (.int (i ^ j.toNat)) else none
theorem pd_sub (ha : PE X a (tE E .val f1)) (hb : PE X b (tE E .val f2)) : PE X (.BinOp a .Sub b pos) (tE E .val (e2 dSub f1 f2)) := pd_op op_sub (step_I0 fun i j e h S => by cases h; exact .int _) ha hb
theorem pd_mul (ha : PE X a (tE E .val f1)) (hb : PE X b (tE E .val f2)) : PE X (.BinOp a .Mult b pos) (tE E .val (e2 dMul f1 f2)) :=
  pd_op op_mul (step_I fun i j e h => by split at h <;> first | (cases h; exact ⟨.inl (by assumption), fun S => .int _⟩) | cases h) ha hb
theorem pd_fdiv (ha : PE X a (tE E .val f1)) (hb : PE X b (tE E .val f2)) : PE X (.BinOp a .FloorDiv b pos) (tE E .val (e2 dFdiv f1 f2)) :=
  pd_op op_fdivN (step_I fun i j e h => by split at h <;> first | (cases h; exact ⟨by assumption, fun S => .int _⟩) | cases h) ha hb
theorem pd_mod (ha : PE X a (tE E .val f1)) (hb : PE X b (tE E .val f2)) : PE X (.BinOp a .Mod b pos) (tE E .val (e2 dMod f1 f2)) :=
  pd_op op_modN (step_I fun i j e h => by split at h <;> first | (cases h; exact ⟨by assumption, fun S => .int _⟩) | cases h) ha hb
theorem pd_pow (ha : PE X a (tE E .val f1)) (hb : PE X b (tE E .val f2)) : PE X (.BinOp a .Pow b pos) (tE E .val (e2 dPow f1 f2)) :=
  pd_op op_pow (step_I fun i j e h => by split at h <;> first | (cases h; exact ⟨by assumption, fun S => .int _⟩) | cases h) ha hb

/-! + : ints, lists, tuples -/
def dAdd : DV → DV → Option DV
  | .dat (.int i), .dat (.int j) => some (.dat (.int (i + j)))
  | .dat (.tuple xs), .dat (.tuple ys) => if xs.length + ys.length ≤ 100000 then some (.dat (.tuple (xs ++ ys))) else none
  | .dat (.list xs), .dat (.list ys) => if xs.length + ys.length ≤ 100000 then some (.dat (.list (xs ++ ys))) else none
  | _, _ => none
theorem OpR.or {op : Value → Value → Sem Value} {r r' : R2} (h : OpR X op r) (h' : OpR X op r') : OpR X op (fun x y H Q => r x y H Q ∨ r' x y H Q) := by
  intro pins s σ H x y v u Q I rx ry q
  rcases q with q | q
  · exact h pins s σ H x y v u Q I rx ry q
  · exact h' pins s σ H x y v u Q I rx ry q
theorem Dq.sqt {S H : Hp} {K : PySem.W.Frag} {v : V} {ds : List PyData} (z : Sub S H) (h : Dq S v (.tuple ds)) : ∃ a xs, v = .ref a ∧ H a = some (.tup xs) ∧ SqT K H a xs ∧ DqAll S xs ds := by
  cases h with
  | tup h1 h2 => exact ⟨_, _, rfl, z _ _ h1, SqT.of (z _ _ h1), h2⟩
theorem Dq.sql {S H : Hp} {K : PySem.W.Frag} {v : V} {ds : List PyData} (z : Sub S H) (h : Dq S v (.list ds)) : ∃ a xs, v = .ref a ∧ H a = some (.lst xs) ∧ SqL K H a xs ∧ DqAll S xs ds := by
  cases h with
  | lst h1 h2 => exact ⟨_, _, rfl, z _ _ h1, SqL.of (z _ _ h1), h2⟩
theorem Grow.one {T : List Addr} {S H : Hp} (sh : Sub S H) (tb : ∀ P ∈ T, GxR.TabG H P ∧ S P = none) : Grow T S H S H := Grow.refl sh fun P hP => (tb P hP).1
theorem dq_lay_tup {T : List Addr} {S H : Hp} {p : Addr} {xs : List V} {ds : List PyData} (sh : Sub S H) (tb : ∀ P ∈ T, GxR.TabG H P ∧ S P = none) (n : H p = none) (h : DqAll S xs ds) :
    Grow T S H (upd S p (.tup xs)) (upd H p (.tup xs)) ∧ Dq (upd S p (.tup xs)) (.ref p) (.tuple ds) := by
  have g := Grow.lay (o := .tup xs) sh (fun P hP => (tb P hP).1) n
  exact ⟨g, .tup upd_same (DqAll.sub g.ss _ _ h)⟩
theorem dq_lay_lst {T : List Addr} {S H : Hp} {p : Addr} {xs : List V} {ds : List PyData} (sh : Sub S H) (tb : ∀ P ∈ T, GxR.TabG H P ∧ S P = none) (n : H p = none) (h : DqAll S xs ds) :
    Grow T S H (upd S p (.lst xs)) (upd H p (.lst xs)) ∧ Dq (upd S p (.lst xs)) (.ref p) (.list ds) := by
  have g := Grow.lay (o := .lst xs) sh (fun P hP => (tb P hP).1) n
  exact ⟨g, .lst upd_same (DqAll.sub g.ss _ _ h)⟩
/-- a new list, one's own -/
theorem own_lst {E : Fx} {S H : Hp} {p : Addr} {xs : List V} {ds : List PyData} (sh : Sub S H) (tb : ∀ P ∈ E.T, GxR.TabG H P ∧ S P = none) (n : H p = none) (h : DqAll S xs ds) :
    Grow E.T S H S (upd H p (.lst xs)) ∧ VOk E .own S H (upd H p (.lst xs)) (.ref p) (.dat (.list ds)) :=
  ⟨Grow.lay0 sh (fun P hP => (tb P hP).1) n, p, .lst xs, rfl, n, (by
    cases e : S p with
    | none => rfl
    | some o => rw [sh _ _ e] at n; cases n), upd_same, xs, rfl, h⟩
theorem step_add : Step2 E .val .val .val (fun x y H Q => rI0 (fun i j => .int (i + j)) x y H Q ∨ (rCatA X.K x y H Q ∨ rCat x y H Q)) dAdd := by
  intro S H0 H x y dx dy d Q sh tb hx hy e q
  unfold dAdd at e
  split at e
  · cases e
    cases hx; cases hy
    exact .inl ⟨_, _, rfl, rfl, q _ S H (Grow.one sh tb) (Dq.int _)⟩
  · split at e
    · rename_i xs ys hz
      cases e
      obtain ⟨p, vs, rfl, _, h1, h2⟩ := Dq.sqt (K := X.K) sh hx
      obtain ⟨p', ws, rfl, _, h1', h2'⟩ := Dq.sqt (K := X.K) sh hy
      refine .inr (.inl ⟨p, p', vs, ws, rfl, rfl, h1, h1', by rw [h2.length, h2'.length]; exact small hz, fun e => ?_, fun _ e => ?_, fun _ _ t n => ?_⟩)
      · subst e
        have : xs = [] := by cases h2; rfl
        subst this
        exact q _ S H (Grow.one sh tb) hy
      · subst e
        have : ys = [] := by cases h2'; rfl
        subst this
        rw [List.append_nil] at q
        exact q _ S H (Grow.one sh tb) hx
      · obtain ⟨g, h⟩ := dq_lay_tup sh tb n (h2.append h2')
        exact q _ _ _ g h
    · cases e
  · split at e
    · rename_i xs ys hz
      cases e
      obtain ⟨p, vs, rfl, h0, h1, h2⟩ := Dq.sql (K := X.K) sh hx
      obtain ⟨p', ws, rfl, h0', h1', h2'⟩ := Dq.sql (K := X.K) sh hy
      refine .inr (.inr ⟨p, p', vs, ws, rfl, rfl, h0, h0', by rw [h2.length, h2'.length]; exact small hz, fun t n => ?_⟩)
      obtain ⟨g, h⟩ := dq_lay_lst sh tb n (h2.append h2')
      exact q _ _ _ g h
    · cases e
  · cases e
theorem pd_add (ha : PE X a (tE E .val f1)) (hb : PE X b (tE E .val f2)) : PE X (.BinOp a .Add b pos) (tE E .val (e2 dAdd f1 f2)) :=
  pd_op (OpR.or op_add (OpR.or op_catA op_cat)) step_add ha hb
/-! a tuple times an int -/
def dRep : DV → DV → Option DV
  | .dat (.tuple xs), .dat (.int k) => if xs ≠ [] ∧ 2 ≤ k ∧ k ≤ 1000 ∧ xs.length ≤ 1000 then some (.dat (.tuple (List.replicate k.toNat xs).flatten)) else none
  | _, _ => none
theorem pd_rep (ha : PE X a (tE E .val f1)) (hb : PE X b (tE E .val f2)) : PE X (.BinOp a .Mult b pos) (tE E .val (e2 dRep f1 f2)) := by
  refine pd_op op_repT (fun S H0 H x y dx dy d Q sh tb hx hy e q => ?_) ha hb
  unfold dRep at e
  split at e
  · split at e
    · rename_i xs k hz
      cases e
      cases hy
      obtain ⟨p, vs, rfl, _, h1, h2⟩ := Dq.sqt (K := X.K) sh hx
      have hl := h2.length
      refine ⟨p, k, vs, rfl, rfl, h1, fun e => hz.1 ?_, hz.2.1, hz.2.2.1, by rw [hl]; exact hz.2.2.2, fun t n => ?_⟩
      · subst e; cases h2; rfl
      · obtain ⟨g, h⟩ := dq_lay_tup sh tb n (h2.rep k.toNat)
        exact q _ _ _ g h
    · cases e
  · cases e

/-! ### comparisons -/
def dB (b : Bool) : DV := .dat (.bool b)
def ordOk (x y : PyData) : Bool := PySem.W.alike x y && (decide (min x.depth y.depth ≤ 50) && (match x with | .none => false | _ => true))
def dLt : DV → DV → Option DV
  | .dat (.int i), .dat (.int j) => some (dB (decide (i < j)))
  | .dat x, .dat y => if ordOk x y = true then some (dB (PySem.W.dataLt x y)) else none
  | _, _ => none
def dGt : DV → DV → Option DV
  | .dat (.int i), .dat (.int j) => some (dB (decide (j < i)))
  | .dat x, .dat y => if ordOk x y = true then some (dB (PySem.W.dataLt y x)) else none
  | _, _ => none
def dLe : DV → DV → Option DV
  | .dat (.int i), .dat (.int j) => some (dB (decide (i ≤ j)))
  | _, _ => none
def dGe : DV → DV → Option DV
  | .dat (.int i), .dat (.int j) => some (dB (decide (j ≤ i)))
  | _, _ => none
def eqOk (x y : PyData) : Bool := x.plain && (y.plain && decide (min x.depth y.depth ≤ 50))
def dEq : DV → DV → Option DV
  | .dat (.int i), .dat (.int j) => some (dB (decide (i = j)))
  | .dat x, .dat y => if eqOk x y = true then some (dB (PyData.eqv x y)) else none
  | _, _ => none
def dNe : DV → DV → Option DV
  | .dat (.int i), .dat (.int j) => some (dB (!decide (i = j)))
  | .dat x, .dat y => if eqOk x y = true then some (dB (!PyData.eqv x y)) else none
  | _, _ => none

theorem dp_of {K : PySem.W.Frag} {m : M} {S H0 H : Hp} {v : V} {d : PyData} (sh : Sub S H) (h : VOk E m S H0 H v (.dat d)) : Dp K H v d := by
  have key : ∀ {a : Addr} {o : HO}, v = .ref a → H a = some o → ObjD E S a (.dat d) o → Dp K H v d := fun {a o} e h1 h2 => by
    subst e
    cases d with
    | list ds =>
      obtain ⟨vs, rfl, h⟩ := h2
      exact .lst (SqL.of h1) (DqAll.dp _ _ (DqAll.sub sh _ _ h))
    | _ => exact h2.elim
  cases m with
  | val => exact Dq.dp _ _ (Dq.sub sh _ _ h)
  | own => obtain ⟨a, o, h1, _, _, h2, h3⟩ := h; exact key h1 h2 h3
  | rd =>
    rcases h with h | ⟨a, o, h1, _, h2, h3⟩
    · exact Dq.dp _ _ (Dq.sub sh _ _ h)
    · exact key h1 h2 h3
section
variable {k : Nat}
def rOrd (K : PySem.W.Frag) (g : PyData → PyData → Bool) : R2 := fun x y H Q => ∃ d e, Dp K H x d ∧ Dp K H y e ∧ ordOk d e = true ∧ Q (.bl (g d e)) H
theorem room_u (hr : Room k X.A) {n : Nat} (h : n ≤ 50) : X.A.units + n < cLine := by have := hr.un; omega
theorem ordOk_of {x y : PyData} (h : ordOk x y = true) : PySem.W.alike x y = true ∧ min x.depth y.depth ≤ 50 ∧ x ≠ .none := by
  unfold ordOk at h
  simp only [Bool.and_eq_true, decide_eq_true_eq] at h
  refine ⟨h.1, h.2.1, fun e => ?_⟩
  subst e
  exact absurd h.2.2 (by decide)
theorem op_ltD (hr : Room k X.A) : OpR X (compareOp .Lt) (rOrd X.K fun d e => PySem.W.dataLt d e) := by
  intro pins s σ H x y v u Q I rx ry ⟨d, e, hd, he, hs, q⟩
  obtain ⟨as, r1⟩ := Dp.reads I d x v hd rx
  obtain ⟨bs, r2⟩ := Dp.reads I e y u he ry
  obtain ⟨h1, h2, h3⟩ := ordOk_of hs
  exact PySem.W.lt_data r1 r2 h1 h3 (room_u hr h2) ⟨.bl _, H, I, rfl, q⟩
theorem op_gtD (hr : Room k X.A) : OpR X (compareOp .Gt) (rOrd X.K fun d e => PySem.W.dataLt e d) := by
  intro pins s σ H x y v u Q I rx ry ⟨d, e, hd, he, hs, q⟩
  obtain ⟨as, r1⟩ := Dp.reads I d x v hd rx
  obtain ⟨bs, r2⟩ := Dp.reads I e y u he ry
  obtain ⟨h1, h2, h3⟩ := ordOk_of hs
  exact PySem.W.gt_data r1 r2 h1 h3 (room_u hr h2) ⟨.bl _, H, I, rfl, q⟩
def rEqP (K : PySem.W.Frag) (g : PyData → PyData → Bool) : R2 := fun x y H Q => ∃ d e, Dp K H x d ∧ Dp K H y e ∧ eqOk d e = true ∧ Q (.bl (g d e)) H
theorem eqOk_of {x y : PyData} (h : eqOk x y = true) : x.plain = true ∧ y.plain = true ∧ min x.depth y.depth ≤ 50 := by
  unfold eqOk at h
  simp only [Bool.and_eq_true, decide_eq_true_eq] at h
  exact ⟨h.1, h.2.1, h.2.2⟩
theorem op_eqP (hr : Room k X.A) : OpR X (compareOp .Eq) (rEqP X.K fun d e => PyData.eqv d e) := by
  intro pins s σ H x y v u Q I rx ry ⟨d, e, hd, he, hs, q⟩
  obtain ⟨as, r1⟩ := Dp.reads I d x v hd rx
  obtain ⟨bs, r2⟩ := Dp.reads I e y u he ry
  obtain ⟨h1, h2, h3⟩ := eqOk_of hs
  exact SeqAt.eq_plain r1 r2 h1 h2 (room_u hr h3) ⟨.bl _, H, I, rfl, q⟩
theorem op_neP (hr : Room k X.A) : OpR X (compareOp .NotEq) (rEqP X.K fun d e => !PyData.eqv d e) := by
  intro pins s σ H x y v u Q I rx ry ⟨d, e, hd, he, hs, q⟩
  obtain ⟨as, r1⟩ := Dp.reads I d x v hd rx
  obtain ⟨bs, r2⟩ := Dp.reads I e y u he ry
  obtain ⟨h1, h2, h3⟩ := eqOk_of hs
  exact SeqAt.ne_plain r1 r2 h1 h2 (room_u hr h3) ⟨.bl _, H, I, rfl, q⟩
theorem dq_int {S : Hp} {v : V} {i : Int} (h : Dq S v (.int i)) : v = .int i := by cases h; rfl
theorem step_ord {K : PySem.W.Frag} {gi : Int → Int → Bool} {g : PyData → PyData → Bool} {dd : DV → DV → Option DV}
    (h1 : ∀ x y d, dd x y = some d → (∃ i j, x = .dat (.int i) ∧ y = .dat (.int j) ∧ d = dB (gi i j)) ∨ ∃ x' y', x = .dat x' ∧ y = .dat y' ∧ ordOk x' y' = true ∧ d = dB (g x' y')) :
    Step2 E .val .val .val (fun x y H Q => rI0 (fun i j => .bl (gi i j)) x y H Q ∨ rOrd K g x y H Q) dd := by
  intro S H0 H x y dx dy d Q sh tb hx hy e q
  rcases h1 _ _ _ e with ⟨i, j, rfl, rfl, rfl⟩ | ⟨x', y', rfl, rfl, ho, rfl⟩
  · cases hx; cases hy
    exact .inl ⟨i, j, rfl, rfl, q _ S H (Grow.one sh tb) (Dq.bl _)⟩
  · exact .inr ⟨x', y', Dq.dp _ _ (Dq.sub sh _ _ hx), Dq.dp _ _ (Dq.sub sh _ _ hy), ho, q _ S H (Grow.one sh tb) (Dq.bl _)⟩
theorem step_eq {K : PySem.W.Frag} {gi : Int → Int → Bool} {g : PyData → PyData → Bool} {dd : DV → DV → Option DV} (hi : ∀ (i j : Int) (H : Hp) (Q : VK), Q (.bl (gi i j)) H → rEqP K g (.int i) (.int j) H Q)
    (h1 : ∀ x y d, dd x y = some d → (∃ i j, x = .dat (.int i) ∧ y = .dat (.int j) ∧ d = dB (gi i j)) ∨ ∃ x' y', x = .dat x' ∧ y = .dat y' ∧ eqOk x' y' = true ∧ d = dB (g x' y')) :
    Step2 E .val .val .val (rEqP K g) dd := by
  intro S H0 H x y dx dy d Q sh tb hx hy e q
  rcases h1 _ _ _ e with ⟨i, j, rfl, rfl, rfl⟩ | ⟨x', y', rfl, rfl, ho, rfl⟩
  · cases hx; cases hy
    exact hi i j H Q (q _ S H (Grow.one sh tb) (Dq.bl _))
  · exact ⟨x', y', Dq.dp _ _ (Dq.sub sh _ _ hx), Dq.dp _ _ (Dq.sub sh _ _ hy), ho, q _ S H (Grow.one sh tb) (Dq.bl _)⟩
theorem step_lt {K : PySem.W.Frag} : Step2 E .val .val .val (fun x y H Q => rI0 (fun i j => .bl (decide (i < j))) x y H Q ∨ rOrd K (fun d e => PySem.W.dataLt d e) x y H Q) dLt := by
  refine step_ord (gi := fun i j => decide (i < j)) fun x y d e => ?_
  unfold dLt at e
  split at e
  · cases e; exact .inl ⟨_, _, rfl, rfl, rfl⟩
  · split at e
    · cases e; exact .inr ⟨_, _, rfl, rfl, by assumption, rfl⟩
    · cases e
  · cases e
theorem step_gt {K : PySem.W.Frag} : Step2 E .val .val .val (fun x y H Q => rI0 (fun i j => .bl (decide (j < i))) x y H Q ∨ rOrd K (fun d e => PySem.W.dataLt e d) x y H Q) dGt := by
  refine step_ord (gi := fun i j => decide (j < i)) (g := fun d e => PySem.W.dataLt e d) fun x y d e => ?_
  unfold dGt at e
  split at e
  · cases e; exact .inl ⟨_, _, rfl, rfl, rfl⟩
  · split at e
    · cases e; exact .inr ⟨_, _, rfl, rfl, by assumption, rfl⟩
    · cases e
  · cases e
theorem step_le : Step2 E .val .val .val (rI0 fun i j => .bl (decide (i ≤ j))) dLe := by
  intro S H0 H x y dx dy d Q sh tb hx hy e q
  unfold dLe at e
  split at e
  · cases e; cases hx; cases hy
    exact ⟨_, _, rfl, rfl, q _ S H (Grow.one sh tb) (Dq.bl _)⟩
  · cases e
theorem step_ge : Step2 E .val .val .val (rI0 fun i j => .bl (decide (j ≤ i))) dGe := by
  intro S H0 H x y dx dy d Q sh tb hx hy e q
  unfold dGe at e
  split at e
  · cases e; cases hx; cases hy
    exact ⟨_, _, rfl, rfl, q _ S H (Grow.one sh tb) (Dq.bl _)⟩
  · cases e
theorem step_eqD {K : PySem.W.Frag} : Step2 E .val .val .val (rEqP K fun d e => PyData.eqv d e) dEq := by
  refine step_eq (gi := fun i j => decide (i = j)) (fun i j H Q q => ⟨.int i, .int j, .int i, .int j, rfl, ?_⟩) fun x y d e => ?_
  · show Q (.bl (PyData.eqv (.int i) (.int j))) H
    rw [show PyData.eqv (.int i) (.int j) = decide (i = j) by simp [PyData.eqv]; rfl]; exact q
  unfold dEq at e
  split at e
  · cases e; exact .inl ⟨_, _, rfl, rfl, rfl⟩
  · split at e
    · cases e; exact .inr ⟨_, _, rfl, rfl, by assumption, rfl⟩
    · cases e
  · cases e
theorem step_neD {K : PySem.W.Frag} : Step2 E .val .val .val (rEqP K fun d e => !PyData.eqv d e) dNe := by
  refine step_eq (gi := fun i j => !decide (i = j)) (fun i j H Q q => ⟨.int i, .int j, .int i, .int j, rfl, ?_⟩) fun x y d e => ?_
  · show Q (.bl (!PyData.eqv (.int i) (.int j))) H
    rw [show PyData.eqv (.int i) (.int j) = decide (i = j) by simp [PyData.eqv]; rfl]; exact q
  unfold dNe at e
  split at e
  · cases e; exact .inl ⟨_, _, rfl, rfl, rfl⟩
  · split at e
    · cases e; exact .inr ⟨_, _, rfl, rfl, by assumption, rfl⟩
    · cases e
  · cases e
end
/-- the operators by one name: the rule and its step -/
structure CmpD (X : Cx) (E : Fx) (op : CmpOp) (m1 m2 : M) (g : DV → DV → Option DV) : Prop where
  ex : ∃ r, OpR X (compareOp op) r ∧ Step2 E m1 m2 .val r g
  bo : ∀ x y d, g x y = some d → ∃ b, d = dB b
theorem c_lt {k : Nat} (hr : Room k X.A) : CmpD X E .Lt .val .val dLt := ⟨⟨_, OpR.or op_lt (op_ltD hr), step_lt⟩, fun x y d e => by unfold dLt at e; (repeat' split at e) <;> cases e <;> exact ⟨_, rfl⟩⟩
theorem c_gt {k : Nat} (hr : Room k X.A) : CmpD X E .Gt .val .val dGt := ⟨⟨_, OpR.or op_gt (op_gtD hr), step_gt⟩, fun x y d e => by unfold dGt at e; (repeat' split at e) <;> cases e <;> exact ⟨_, rfl⟩⟩
theorem c_le {k : Nat} (hr : Room k X.A) : CmpD X E .LtE .val .val dLe := ⟨⟨_, op_le, step_le⟩, fun x y d e => by unfold dLe at e; (repeat' split at e) <;> cases e <;> exact ⟨_, rfl⟩⟩
theorem c_ge {k : Nat} (hr : Room k X.A) : CmpD X E .GtE .val .val dGe := ⟨⟨_, op_ge, step_ge⟩, fun x y d e => by unfold dGe at e; (repeat' split at e) <;> cases e <;> exact ⟨_, rfl⟩⟩
theorem c_eq {k : Nat} (hr : Room k X.A) : CmpD X E .Eq .val .val dEq := ⟨⟨_, op_eqP hr, step_eqD⟩, fun x y d e => by unfold dEq at e; (repeat' split at e) <;> cases e <;> exact ⟨_, rfl⟩⟩
theorem c_ne {k : Nat} (hr : Room k X.A) : CmpD X E .NotEq .val .val dNe := ⟨⟨_, op_neP hr, step_neD⟩, fun x y d e => by unfold dNe at e; (repeat' split at e) <;> cases e <;> exact ⟨_, rfl⟩⟩
theorem pd_c {op : CmpOp} {g : DV → DV → Option DV} (hc : CmpD X E op m1 m2 g) (ha : PE X a (tE E m1 f1)) (hb : PE X b (tE E m2 f2)) (hm : behindInMarks op b = false := by first | exact nomark _ | with_unfolding_all rfl) : PE X (.Compare a [op] [b] pos) (tE E .val (e2 g f1 f2)) := by
  obtain ⟨r, h1, h2⟩ := hc.ex
  exact pd_cmp h1 h2 ha hb hm
/-! is None -/
def dIsN : DV → Option DV
  | .dat .none => some (dB true)
  | .dat _ => some (dB false)
  | _ => none
theorem pd_isN {j pos'} (ha : PE X a (tE E .val f1)) : PE X (.Compare a [.Is] [.Constant .none j pos'] pos) (tE E .val (e1 dIsN f1)) :=
  (pe_cmp (pc_isN ha)).imp fun σ H Q ⟨S, env, d, rel, e, q⟩ => by
    unfold e1 at e
    obtain ⟨dx, ex, e⟩ := Option.bind_eq_some_iff.mp e
    refine ⟨S, env, dx, rel, ex, fun x S' H' g hx => ?_⟩
    refine q _ S' H' g ?_
    unfold dIsN at e
    split at e
    · cases e; cases hx; exact Dq.bl _
    · rename_i d' hd
      cases e
      have hx' : Dq S' x d' := hx
      cases hx' with
      | non => exact absurd rfl hd
      | _ => exact Dq.bl false
    · cases e
end
end FD
end

section
set_option Elab.async false
set_option linter.all false
set_option maxRecDepth 100000
set_option maxHeartbeats 4000000
/-! FD3: chains, truth, and, or, not, if; argument lists, displays, subscripts, slices. -/
namespace FD
open PySem PySem.Spec PyProof.Rows L2
section
variable {X : Cx} {E : Fx} {m m1 m2 : M} {f f1 f2 f3 : DE → Option DV} {t t1 t2 : DE → Option Bool} {a b c : Expr} {pos : Pos}

/-! ### chains of comparisons -/
def eChain (g g' : DV → DV → Option DV) (f1 f2 f3 : DE → Option DV) : DE → Option DV := fun env => (f1 env).bind fun x => (f2 env).bind fun y => (g x y).bind fun z => match z with
  | .dat (.bool true) => (f3 env).bind fun u => g' y u
  | .dat (.bool false) => some (dB false)
  | _ => none
theorem tE_chain {r r' : R2} {g g' : DV → DV → Option DV} (h1 : Step2 E .val .val .val r g) (h2 : Step2 E .val .val .val r' g') {σ : L2.St} {H : Hp} {Q : VK} (h : tE E .val (eChain g g' f1 f2 f3) σ H Q) :
    tChain r r' (tE E .val f1) (tE E .val f2) (tE E .val f3) σ H Q := by
  obtain ⟨S, env, d, rel, e, k⟩ := h
  unfold eChain at e
  obtain ⟨dx, ex, e⟩ := Option.bind_eq_some_iff.mp e
  obtain ⟨dy, ey, e⟩ := Option.bind_eq_some_iff.mp e
  obtain ⟨dz, ez, e⟩ := Option.bind_eq_some_iff.mp e
  refine ⟨S, env, dx, rel, ex, fun x S1 H1 g1 hx => ⟨S1, env, dy, rel.grow g1, ey, fun y S2 H2 g2 hy => ?_⟩⟩
  have r2 := (rel.grow g1).grow g2
  refine h1 S2 H H2 x y dx dy dz _ r2.sh r2.tb (hx.grow (rel.grow g1).tabs g2) (hy.back fun a => g1.free) ez fun z S3 H3 g3 hz => ?_
  have g13 := (g1.trans g2).trans g3
  split at e
  · cases hz
    refine ⟨true, rfl, ?_⟩
    rw [if_pos rfl]
    obtain ⟨du, eu, e⟩ := Option.bind_eq_some_iff.mp e
    refine ⟨S3, env, du, r2.grow g3, eu, fun u S4 H4 g4 hu => ?_⟩
    have r4 := (r2.grow g3).grow g4
    refine h2 S4 H H4 y u dy du d Q r4.sh r4.tb (Dn.sub g4.ss (Dn.sub g3.ss hy)) hu e fun v S' H' g5 hv => ?_
    exact k v S' H' ((g13.trans g4).trans g5) hv
  · cases hz
    cases e
    refine ⟨false, rfl, ?_⟩
    rw [if_neg Bool.false_ne_true]
    exact k _ S3 H3 g13 (Dq.bl false)
  · cases e
theorem pd_chain {op op' : CmpOp} {g g' : DV → DV → Option DV} (h1 : CmpD X E op .val .val g) (h2 : CmpD X E op' .val .val g') (ha : PE X a (tE E .val f1)) (hb : PE X b (tE E .val f2)) (hc : PE X c (tE E .val f3))
    (hm : lastMarks [op, op'] [b, c] = false := by with_unfolding_all rfl) : PE X (.Compare a [op, op'] [b, c] pos) (tE E .val (eChain g g' f1 f2 f3)) := by
  obtain ⟨r, o1, s1⟩ := h1.ex
  obtain ⟨r', o2, s2⟩ := h2.ex
  exact (pe_chain o1 o2 ha hb hc hm).imp fun _ _ _ q => tE_chain s1 s2 q

/-! ### truth -/
def dTru : DV → Option Bool
  | .dat (.bool b) => some b
  | .dat (.int i) => some (i != 0)
  | .dat .none => some false
  | .dat (.list ds) => some (!ds.isEmpty)
  | .dat (.tuple ds) => some (!ds.isEmpty)
  | _ => none
def eTru (f : DE → Option DV) : DE → Option Bool := fun env => (f env).bind dTru
theorem DqAll.isEmpty {S : Hp} {ds : List PyData} {vs : List V} (h : DqAll S vs ds) : vs.isEmpty = ds.isEmpty := by cases h <;> rfl
theorem tru_of {K : PySem.W.Frag} {S H0 H : Hp} {v : V} {x : DV} {b : Bool} (sh : Sub S H) (h : VOk E m S H0 H v x) (e : dTru x = some b) : TruV K v H b := by
  have lst : ∀ {ds : List PyData}, x = .dat (.list ds) → ∃ a vs, v = .ref a ∧ H a = some (.lst vs) ∧ vs.isEmpty = ds.isEmpty := fun {ds} q => by
    subst q
    have key : ∀ {a : Addr} {o : HO}, v = .ref a → H a = some o → ObjD E S a (.dat (.list ds)) o → ∃ a vs, v = .ref a ∧ H a = some (.lst vs) ∧ vs.isEmpty = ds.isEmpty := fun {a o} e h1 h2 => by
      obtain ⟨vs, rfl, h⟩ := h2
      exact ⟨a, vs, e, h1, h.isEmpty⟩
    have valc : Dq S v (.list ds) → ∃ a vs, v = .ref a ∧ H a = some (.lst vs) ∧ vs.isEmpty = ds.isEmpty := fun h => by
      cases h with
      | lst h1 h2 => exact ⟨_, _, rfl, sh _ _ h1, h2.isEmpty⟩
    cases m with
    | val => exact valc h
    | own => obtain ⟨a, o, h1, _, _, h2, h3⟩ := h; exact key h1 h2 h3
    | rd =>
      rcases h with h | ⟨a, o, h1, _, h2, h3⟩
      · exact valc h
      · exact key h1 h2 h3
  have oth : ∀ {d : PyData}, x = .dat d → (∀ ds, d ≠ .list ds) → Dq S v d := fun {d} q n => by
    subst q
    have no : ∀ {a : Addr} {o : HO}, ¬ ObjD E S a (.dat d) o := fun {a o} h => by
      cases d with
      | list ds => exact n ds rfl
      | _ => exact h
    cases m with
    | val => exact h
    | own => obtain ⟨a, o, _, _, _, _, h3⟩ := h; exact (no h3).elim
    | rd =>
      rcases h with h | ⟨a, o, _, _, _, h3⟩
      · exact h
      · exact (no h3).elim
  unfold dTru at e
  split at e
  · cases e
    have := oth rfl (fun _ z => nomatch z)
    cases this; rfl
  · cases e
    have := oth rfl (fun _ z => nomatch z)
    cases this; rfl
  · cases e
    have := oth rfl (fun _ z => nomatch z)
    cases this; rfl
  · cases e
    obtain ⟨a, vs, rfl, h1, h2⟩ := lst rfl
    exact .inl ⟨vs, SqL.of h1, by rw [h2]⟩
  · cases e
    have := oth rfl (fun _ z => nomatch z)
    cases this with
    | tup h1 h2 => exact .inr (.inl ⟨_, SqT.of (sh _ _ h1), by rw [h2.isEmpty]⟩)
  · cases e
theorem VOk.fin {S H0 H : Hp} {v : V} {x : DV} (h : VOk E .val S H0 H v x) {H1 H2 : Hp} : VOk E .val S H1 H2 v x := h
/-- an expression as a test -/
theorem td_tru (ha : PE X a (tE E m f)) (he : ∀ whole, isTrue a X.env whole = (do let v ← whole; standAt a.pos; holding [v] (truthy v)) := by intro _; rfl) : PT X a (tT E (eTru f)) :=
  (pt_truth ha he).imp fun σ H Q ⟨S, env, b, rel, e, k⟩ => by
    unfold eTru at e
    obtain ⟨dx, ex, e⟩ := Option.bind_eq_some_iff.mp e
    exact ⟨S, env, dx, rel, ex, fun x S' H' g hx => ⟨b, tru_of g.sh hx e, k S' H' g⟩⟩
/-- a comparison as a test -/
theorem td_c {op : CmpOp} {g : DV → DV → Option DV} (hc : CmpD X E op m1 m2 g) (ha : PE X a (tE E m1 f1)) (hb : PE X b (tE E m2 f2)) (hm : behindInMarks op b = false := by first | exact nomark _ | with_unfolding_all rfl) : PT X (.Compare a [op] [b] pos) (tT E (eTru (e2 g f1 f2))) := by
  obtain ⟨r, h1, h2⟩ := hc.ex
  refine (pt_cmpR h1 ha hb hm).imp fun σ H Q ⟨S, env, b, rel, e, k⟩ => ?_
  unfold eTru at e
  obtain ⟨dx, ex, e⟩ := Option.bind_eq_some_iff.mp e
  refine tE2 h2 ⟨S, env, dx, rel, ex, fun v S' H' g hv => ?_⟩
  obtain ⟨b', eb⟩ : ∃ b', dx = dB b' := by
    unfold e2 at ex
    obtain ⟨_, _, ex⟩ := Option.bind_eq_some_iff.mp ex
    obtain ⟨_, _, ex⟩ := Option.bind_eq_some_iff.mp ex
    exact hc.bo _ _ _ ex
  subst eb
  cases hv
  have : b' = b := Option.some.inj e
  subst this
  exact ⟨_, rfl, k S' H' g⟩
theorem td_chain {op op' : CmpOp} {g g' : DV → DV → Option DV} (h1 : CmpD X E op .val .val g) (h2 : CmpD X E op' .val .val g') (ha : PE X a (tE E .val f1)) (hb : PE X b (tE E .val f2)) (hc : PE X c (tE E .val f3))
    (hm : lastMarks [op, op'] [b, c] = false := by with_unfolding_all rfl) : PT X (.Compare a [op, op'] [b, c] pos) (tT E (eTru (eChain g g' f1 f2 f3))) := by
  obtain ⟨r, o1, s1⟩ := h1.ex
  obtain ⟨r', o2, s2⟩ := h2.ex
  refine (pt_chain o1 o2 ha hb hc hm).imp fun σ H Q ⟨S, env, b, rel, e, k⟩ => ?_
  unfold eTru at e
  obtain ⟨dx, ex, e⟩ := Option.bind_eq_some_iff.mp e
  refine tE_chain s1 s2 ⟨S, env, dx, rel, ex, fun v S' H' g hv => ?_⟩
  obtain ⟨b', eb⟩ : ∃ b', dx = dB b' := by
    unfold eChain at ex
    obtain ⟨_, _, ex⟩ := Option.bind_eq_some_iff.mp ex
    obtain ⟨_, _, ex⟩ := Option.bind_eq_some_iff.mp ex
    obtain ⟨_, _, ex⟩ := Option.bind_eq_some_iff.mp ex
    split at ex
    · obtain ⟨_, _, ex⟩ := Option.bind_eq_some_iff.mp ex
      exact h2.bo _ _ _ ex
    · exact ⟨false, (Option.some.inj ex).symm⟩
    · cases ex
  subst eb
  cases hv
  have : b' = b := Option.some.inj e
  subst this
  exact ⟨_, rfl, k S' H' g⟩

/-! ### and, or, not, if -/
def tAndF (t1 t2 : DE → Option Bool) : DE → Option Bool := fun env => (t1 env).bind fun b => if b = true then t2 env else some false
def tOrF (t1 t2 : DE → Option Bool) : DE → Option Bool := fun env => (t1 env).bind fun b => if b = true then some true else t2 env
def tNotF (t1 : DE → Option Bool) : DE → Option Bool := fun env => (t1 env).map (!·)
theorem tT_and {σ : L2.St} {H : Hp} {Q : Bool → Hp → Prop} (h : tT E (tAndF t1 t2) σ H Q) : tAnd (tT E t1) (tT E t2) σ H Q := by
  obtain ⟨S, env, b, rel, e, k⟩ := h
  unfold tAndF at e
  obtain ⟨b1, e1, e⟩ := Option.bind_eq_some_iff.mp e
  refine ⟨S, env, b1, rel, e1, fun S1 H1 g1 => ?_⟩
  cases b1 with
  | true =>
    rw [if_pos rfl] at e ⊢
    exact ⟨S1, env, b, rel.grow g1, e, fun S2 H2 g2 => k S2 H2 (g1.trans g2)⟩
  | false =>
    rw [if_neg Bool.false_ne_true] at e ⊢
    cases e
    exact k S1 H1 g1
theorem tT_or {σ : L2.St} {H : Hp} {Q : Bool → Hp → Prop} (h : tT E (tOrF t1 t2) σ H Q) : tOr (tT E t1) (tT E t2) σ H Q := by
  obtain ⟨S, env, b, rel, e, k⟩ := h
  unfold tOrF at e
  obtain ⟨b1, e1, e⟩ := Option.bind_eq_some_iff.mp e
  refine ⟨S, env, b1, rel, e1, fun S1 H1 g1 => ?_⟩
  cases b1 with
  | true =>
    rw [if_pos rfl] at e ⊢
    cases e
    exact k S1 H1 g1
  | false =>
    rw [if_neg Bool.false_ne_true] at e ⊢
    exact ⟨S1, env, b, rel.grow g1, e, fun S2 H2 g2 => k S2 H2 (g1.trans g2)⟩
theorem _root_.L2.PW.imp {e : Expr} {t t' : TT} (h : PW X e t) (z : ∀ σ H Q, t' σ H Q → t σ H Q) : PW X e t' := ⟨fun wh pins s σ H Q I q => h.run wh pins s σ H Q I (z σ H Q q)⟩
theorem wd_and {rest : List Expr} (ha : PT X a (tT E t1)) (hb : PW X (.BoolOp .And (b :: rest) pos) (tT E t2)) : PW X (.BoolOp .And (a :: b :: rest) pos) (tT E (tAndF t1 t2)) := (pw_and ha hb).imp fun _ _ _ q => tT_and q
theorem wd_or {rest : List Expr} (ha : PT X a (tT E t1)) (hb : PW X (.BoolOp .Or (b :: rest) pos) (tT E t2)) : PW X (.BoolOp .Or (a :: b :: rest) pos) (tT E (tOrF t1 t2)) := (pw_or ha hb).imp fun _ _ _ q => tT_or q
theorem td_not (ha : PT X a (tT E t1)) : PT X (.UnaryOp .Not a pos) (tT E (tNotF t1)) :=
  (pt_not ha).imp fun σ H Q ⟨S, env, b, rel, e, k⟩ => by
    unfold tNotF at e
    obtain ⟨b1, e1, rfl⟩ := Option.map_eq_some_iff.mp e
    exact ⟨S, env, b1, rel, e1, fun S1 H1 g1 => k S1 H1 g1⟩
/-! values that are truth values -/
def eAnd (f1 f2 : DE → Option DV) : DE → Option DV := fun env => (f1 env).bind fun x => match x with
  | .dat (.bool true) => f2 env
  | .dat (.bool false) => some (dB false)
  | _ => none
def eOr (f1 f2 : DE → Option DV) : DE → Option DV := fun env => (f1 env).bind fun x => match x with
  | .dat (.bool true) => some (dB true)
  | .dat (.bool false) => f2 env
  | _ => none
def eNot (f1 : DE → Option DV) : DE → Option DV := fun env => (f1 env).bind fun x => match x with
  | .dat (.bool b) => some (dB (!b))
  | _ => none
theorem pd_and {rest : List Expr} (ha : PE X a (tE E .val f1)) (hb : PE X (.BoolOp .And (b :: rest) pos) (tE E .val f2)) : PE X (.BoolOp .And (a :: b :: rest) pos) (tE E .val (eAnd f1 f2)) :=
  (pe_and ha hb).imp fun σ H Q ⟨S, env, d, rel, e, k⟩ => by
    unfold eAnd at e
    obtain ⟨dx, ex, e⟩ := Option.bind_eq_some_iff.mp e
    refine ⟨S, env, dx, rel, ex, fun x S1 H1 g1 hx => ?_⟩
    split at e
    · cases hx
      refine ⟨true, rfl, ?_⟩
      rw [if_pos rfl]
      exact ⟨S1, env, d, rel.grow g1, e, fun v S2 H2 g2 hv => k v S2 H2 (g1.trans g2) hv⟩
    · cases hx
      cases e
      refine ⟨false, rfl, ?_⟩
      rw [if_neg Bool.false_ne_true]
      exact k _ S1 H1 g1 (Dq.bl _)
    · cases e
theorem pd_or {rest : List Expr} (ha : PE X a (tE E .val f1)) (hb : PE X (.BoolOp .Or (b :: rest) pos) (tE E .val f2)) : PE X (.BoolOp .Or (a :: b :: rest) pos) (tE E .val (eOr f1 f2)) :=
  (pe_or ha hb).imp fun σ H Q ⟨S, env, d, rel, e, k⟩ => by
    unfold eOr at e
    obtain ⟨dx, ex, e⟩ := Option.bind_eq_some_iff.mp e
    refine ⟨S, env, dx, rel, ex, fun x S1 H1 g1 hx => ?_⟩
    split at e
    · cases hx
      cases e
      refine ⟨true, rfl, ?_⟩
      rw [if_pos rfl]
      exact k _ S1 H1 g1 (Dq.bl _)
    · cases hx
      refine ⟨false, rfl, ?_⟩
      rw [if_neg Bool.false_ne_true]
      exact ⟨S1, env, d, rel.grow g1, e, fun v S2 H2 g2 hv => k v S2 H2 (g1.trans g2) hv⟩
    · cases e
theorem pd_not (ha : PE X a (tE E .val f1)) : PE X (.UnaryOp .Not a pos) (tE E .val (eNot f1)) :=
  (pe_not ha).imp fun σ H Q ⟨S, env, d, rel, e, k⟩ => by
    unfold eNot at e
    obtain ⟨dx, ex, e⟩ := Option.bind_eq_some_iff.mp e
    refine ⟨S, env, dx, rel, ex, fun x S1 H1 g1 hx => ?_⟩
    split at e
    · cases hx
      cases e
      exact ⟨_, rfl, k _ S1 H1 g1 (Dq.bl _)⟩
    · cases e
/-- a value's truth as a value (not x, x of any kind) -/
def eNotT (t : DE → Option Bool) : DE → Option DV := fun env => (t env).map fun b => dB (!b)
def eIf (t : DE → Option Bool) (f1 f2 : DE → Option DV) : DE → Option DV := fun env => (t env).bind fun b => if b = true then f1 env else f2 env
theorem pd_if (hc : PT X c (tT E t)) (ha : PE X a (tE E m f1)) (hb : PE X b (tE E m f2)) : PE X (.IfExp c a b pos) (tE E m (eIf t f1 f2)) :=
  (pe_ifExp hc ha hb).imp fun σ H Q ⟨S, env, d, rel, e, k⟩ => by
    unfold eIf at e
    obtain ⟨b1, e1, e⟩ := Option.bind_eq_some_iff.mp e
    refine ⟨S, env, b1, rel, e1, fun S1 H1 g1 => ?_⟩
    cases b1 with
    | true =>
      rw [if_pos rfl] at e ⊢
      exact ⟨S1, env, d, rel.grow g1, e, fun v S2 H2 g2 hv => k v S2 H2 (g1.trans g2) (hv.back fun a => g1.free)⟩
    | false =>
      rw [if_neg Bool.false_ne_true] at e ⊢
      exact ⟨S1, env, d, rel.grow g1, e, fun v S2 H2 g2 hv => k v S2 H2 (g1.trans g2) (hv.back fun a => g1.free)⟩

/-! ### argument lists -/
def aNil : DE → Option (List DV) := fun _ => some []
def aCons (f : DE → Option DV) (r : DE → Option (List DV)) : DE → Option (List DV) := fun env => (f env).bind fun x => (r env).map (x :: ·)
variable {e : Expr} {es : List Expr} {ms : List M} {fa : DE → Option (List DV)}
theorem ad_nil : PA X [] (tA E [] aNil) := pa_nil.imp fun σ H Q ⟨S, env, xs, rel, e, k⟩ => by
  cases e
  exact k [] S H rel.refl .nil
theorem ad_cons (ha : PE X e (tE E m f)) (hr : PA X es (tA E ms fa)) (hs : starEach (e :: es) X.env = (false, eval e X.env) :: starEach es X.env := by rfl) : PA X (e :: es) (tA E (m :: ms) (aCons f fa)) :=
  (pa_cons ha hr hs).imp fun σ H Q ⟨S, env, xs, rel, e, k⟩ => by
    unfold aCons at e
    obtain ⟨dx, ex, e⟩ := Option.bind_eq_some_iff.mp e
    obtain ⟨ys, ey, rfl⟩ := Option.map_eq_some_iff.mp e
    refine ⟨S, env, dx, rel, ex, fun x S1 H1 g1 hx => ⟨S1, env, ys, rel.grow g1, ey, fun vs S2 H2 g2 hv => ?_⟩⟩
    exact k (x :: vs) S2 H2 (g1.trans g2) (.cons (hx.grow (rel.grow g1).tabs g2) (hv.back fun a => g1.free))
/-- data alone -/
def dats : List DV → Option (List PyData)
  | [] => some []
  | .dat d :: r => (dats r).map (d :: ·)
  | .dct _ :: _ => none
  | .adr _ :: _ => none
def vals (n : Nat) : List M := List.replicate n .val
theorem dats_ok {S H0 H : Hp} : ∀ {n : Nat} {vs : List V} {xs : List DV} {ds : List PyData}, VsOk E S H0 H (vals n) vs xs → dats xs = some ds → DqAll S vs ds
  | 0, _, _, _, h, e => by
    cases h
    cases e
    exact .nil
  | n + 1, _, _, _, h, e => by
    cases h with
    | @cons _ _ v vs x xs h1 h2 =>
      cases x with
      | dat d =>
        obtain ⟨r, e1, rfl⟩ := Option.map_eq_some_iff.mp (show (dats xs).map (d :: ·) = some _ from e)
        exact .cons h1 (dats_ok h2 e1)
      | dct _ => cases e
      | adr _ => cases e
def eTup (fa : DE → Option (List DV)) : DE → Option DV := fun env => (fa env).bind fun xs => (dats xs).bind fun ds => if ds.length ≤ 100000 then some (.dat (.tuple ds)) else none
def eLst (fa : DE → Option (List DV)) : DE → Option DV := fun env => (fa env).bind fun xs => (dats xs).bind fun ds => if ds.length ≤ 100000 then some (.dat (.list ds)) else none
theorem pd_tup {n : Nat} {x1} (h : PA X es (tA E (vals n) fa)) : PE X (.Tuple es x1 pos) (tE E .val (eTup fa)) :=
  (pe_tup h).imp fun σ H Q ⟨S, env, d, rel, e, k⟩ => by
    unfold eTup at e
    obtain ⟨xs, ex, e⟩ := Option.bind_eq_some_iff.mp e
    obtain ⟨ds, ed, e⟩ := Option.bind_eq_some_iff.mp e
    refine ⟨S, env, xs, rel, ex, fun vs S1 H1 g1 hv => ?_⟩
    have hd := dats_ok hv ed
    split at e
    · rename_i hz
      cases e
      refine ⟨by rw [hd.length]; exact small hz, fun p np => ?_⟩
      have r1 := rel.grow g1
      obtain ⟨g, z⟩ := dq_lay_tup (T := E.T) r1.sh r1.tb np hd
      exact k _ _ _ (g1.trans g) z
    · cases e
theorem pd_lst {n : Nat} (h : PA X es (tA E (vals n) fa)) : PE X (.List es pos) (tE E .own (eLst fa)) :=
  (pe_lst h).imp fun σ H Q ⟨S, env, d, rel, e, k⟩ => by
    unfold eLst at e
    obtain ⟨xs, ex, e⟩ := Option.bind_eq_some_iff.mp e
    obtain ⟨ds, ed, e⟩ := Option.bind_eq_some_iff.mp e
    refine ⟨S, env, xs, rel, ex, fun vs S1 H1 g1 hv => ?_⟩
    have hd := dats_ok hv ed
    split at e
    · rename_i hz
      cases e
      refine ⟨by rw [hd.length]; exact small hz, fun p np => ?_⟩
      have r1 := rel.grow g1
      obtain ⟨g, z⟩ := own_lst (E := E) r1.sh r1.tb np hd
      exact k _ _ _ (g1.trans g) (z.back fun a => g1.free)
    · cases e
/-! with stars: data spliced -/
def items : DV → Option (List PyData)
  | .dat (.tuple ds) => some ds
  | .dat (.list ds) => some ds
  | _ => none
/-- an argument list as one list of data -/
def tL (E : Fx) (f : DE → Option (List PyData)) : TA := fun σ H Q => ∃ S env ds, RelE E env σ S H ∧ f env = some ds ∧ ∀ vs S' H', Grow E.T S H S' H' → DqAll S' vs ds → Q vs H'
def lNil : DE → Option (List PyData) := fun _ => some []
def lCons (f : DE → Option DV) (r : DE → Option (List PyData)) : DE → Option (List PyData) := fun env => (f env).bind fun x => match x with
  | .dat d => (r env).map (d :: ·)
  | _ => none
def lStar (f : DE → Option DV) (r : DE → Option (List PyData)) : DE → Option (List PyData) := fun env => (f env).bind fun x => (items x).bind fun ds => (r env).map (ds ++ ·)
variable {fl : DE → Option (List PyData)}
theorem ld_nil : PA X [] (tL E lNil) := pa_nil.imp fun σ H Q ⟨S, env, xs, rel, e, k⟩ => by
  cases e
  exact k [] S H rel.refl .nil
theorem ld_cons (ha : PE X e (tE E .val f)) (hr : PA X es (tL E fl)) (hs : starEach (e :: es) X.env = (false, eval e X.env) :: starEach es X.env := by rfl) : PA X (e :: es) (tL E (lCons f fl)) :=
  (pa_cons ha hr hs).imp fun σ H Q ⟨S, env, xs, rel, e, k⟩ => by
    unfold lCons at e
    obtain ⟨dx, ex, e⟩ := Option.bind_eq_some_iff.mp e
    split at e
    · obtain ⟨ys, ey, rfl⟩ := Option.map_eq_some_iff.mp e
      refine ⟨S, env, _, rel, ex, fun x S1 H1 g1 hx => ⟨S1, env, ys, rel.grow g1, ey, fun vs S2 H2 g2 hv => ?_⟩⟩
      exact k (x :: vs) S2 H2 (g1.trans g2) (.cons (Dq.sub g2.ss _ _ hx) hv)
    · cases e
theorem items_ok {S H : Hp} {K : PySem.W.Frag} {v : V} {x : DV} {ds : List PyData} (sh : Sub S H) (h : Dn E S v x) (e : items x = some ds) : ∃ p xs, v = .ref p ∧ (SqT K H p xs ∨ SqL K H p xs) ∧ DqAll S xs ds := by
  unfold items at e
  split at e
  · cases e
    obtain ⟨p, xs, rfl, _, h1, h2⟩ := Dq.sqt (K := K) sh h
    exact ⟨p, xs, rfl, .inl h1, h2⟩
  · cases e
    obtain ⟨p, xs, rfl, _, h1, h2⟩ := Dq.sql (K := K) sh h
    exact ⟨p, xs, rfl, .inr h1, h2⟩
  · cases e
theorem ld_star {p : Pos} (ha : PE X e (tE E .val f)) (hr : PA X es (tL E fl)) (hs : starEach (.Starred e p :: es) X.env = (true, eval e X.env) :: starEach es X.env := by rfl) : PA X (.Starred e p :: es) (tL E (lStar f fl)) :=
  (StX.pa_star ha hr hs).imp fun σ H Q ⟨S, env, xs, rel, e, k⟩ => by
    unfold lStar at e
    obtain ⟨dx, ex, e⟩ := Option.bind_eq_some_iff.mp e
    obtain ⟨ds, ed, e⟩ := Option.bind_eq_some_iff.mp e
    obtain ⟨ys, ey, rfl⟩ := Option.map_eq_some_iff.mp e
    refine ⟨S, env, dx, rel, ex, fun x S1 H1 g1 hx => ?_⟩
    obtain ⟨p, us, rfl, h1, h2⟩ := items_ok (K := X.K) g1.sh hx ed
    refine ⟨p, us, rfl, h1, S1, env, ys, rel.grow g1, ey, fun vs S2 H2 g2 hv => ?_⟩
    exact k (us ++ vs) S2 H2 (g1.trans g2) ((DqAll.sub g2.ss _ _ h2).append hv)
def eTupL (fl : DE → Option (List PyData)) : DE → Option DV := fun env => (fl env).bind fun ds => if ds.length ≤ 100000 then some (.dat (.tuple ds)) else none
def eLstL (fl : DE → Option (List PyData)) : DE → Option DV := fun env => (fl env).bind fun ds => if ds.length ≤ 100000 then some (.dat (.list ds)) else none
theorem pd_tupL {x1} (h : PA X es (tL E fl)) : PE X (.Tuple es x1 pos) (tE E .val (eTupL fl)) :=
  (pe_tup h).imp fun σ H Q ⟨S, env, d, rel, e, k⟩ => by
    unfold eTupL at e
    obtain ⟨ds, ed, e⟩ := Option.bind_eq_some_iff.mp e
    refine ⟨S, env, ds, rel, ed, fun vs S1 H1 g1 hd => ?_⟩
    split at e
    · rename_i hz
      cases e
      refine ⟨by rw [hd.length]; exact small hz, fun p np => ?_⟩
      have r1 := rel.grow g1
      obtain ⟨g, z⟩ := dq_lay_tup (T := E.T) r1.sh r1.tb np hd
      exact k _ _ _ (g1.trans g) z
    · cases e
theorem pd_lstL (h : PA X es (tL E fl)) : PE X (.List es pos) (tE E .own (eLstL fl)) :=
  (pe_lst h).imp fun σ H Q ⟨S, env, d, rel, e, k⟩ => by
    unfold eLstL at e
    obtain ⟨ds, ed, e⟩ := Option.bind_eq_some_iff.mp e
    refine ⟨S, env, ds, rel, ed, fun vs S1 H1 g1 hd => ?_⟩
    split at e
    · rename_i hz
      cases e
      refine ⟨by rw [hd.length]; exact small hz, fun p np => ?_⟩
      have r1 := rel.grow g1
      obtain ⟨g, z⟩ := own_lst (E := E) r1.sh r1.tb np hd
      exact k _ _ _ (g1.trans g) (z.back fun a => g1.free)
    · cases e
end
end FD
end

section
set_option Elab.async false
set_option linter.all false
set_option maxRecDepth 100000
set_option maxHeartbeats 4000000
/-! FD4: subscripts, slices, in; dicts with nested keys. -/
namespace FD
open PySem PySem.Spec PyProof.Rows L2
section
variable {X : Cx} {E : Fx} {m m1 m2 : M} {f f1 f2 f3 : DE → Option DV} {a b c : Expr} {pos : Pos} {T : List Addr}

/-! ### what a readable value is -/
theorem rd_list {S H0 H : Hp} {v : V} {ds : List PyData} (sh : Sub S H) (h : VOk E m S H0 H v (.dat (.list ds))) : ∃ p vs, v = .ref p ∧ H p = some (.lst vs) ∧ DqAll S vs ds := by
  have key : ∀ {p : Addr} {o : HO}, v = .ref p → H p = some o → ObjD E S p (.dat (.list ds)) o → ∃ p vs, v = .ref p ∧ H p = some (.lst vs) ∧ DqAll S vs ds := fun {p o} e h1 h2 => by
    obtain ⟨vs, rfl, h⟩ := h2
    exact ⟨p, vs, e, h1, h⟩
  have valc : Dq S v (.list ds) → ∃ p vs, v = .ref p ∧ H p = some (.lst vs) ∧ DqAll S vs ds := fun h => by
    cases h with
    | lst h1 h2 => exact ⟨_, _, rfl, sh _ _ h1, h2⟩
  cases m with
  | val => exact valc h
  | own => obtain ⟨p, o, h1, _, _, h2, h3⟩ := h; exact key h1 h2 h3
  | rd =>
    rcases h with h | ⟨p, o, h1, _, h2, h3⟩
    · exact valc h
    · exact key h1 h2 h3
theorem rd_tup {S H0 H : Hp} {v : V} {ds : List PyData} (sh : Sub S H) (h : VOk E m S H0 H v (.dat (.tuple ds))) : ∃ p vs, v = .ref p ∧ H p = some (.tup vs) ∧ DqAll S vs ds := by
  have valc : Dq S v (.tuple ds) → ∃ p vs, v = .ref p ∧ H p = some (.tup vs) ∧ DqAll S vs ds := fun h => by
    cases h with
    | tup h1 h2 => exact ⟨_, _, rfl, sh _ _ h1, h2⟩
  cases m with
  | val => exact valc h
  | own => obtain ⟨p, o, h1, _, _, h2, h3⟩ := h; exact h3.elim
  | rd =>
    rcases h with h | ⟨p, o, h1, _, h2, h3⟩
    · exact valc h
    · exact h3.elim
theorem rd_dct {S H0 H : Hp} {v : V} {kvs : List (NestedKey × PyData)} (sh : Sub S H) (h : VOk E m S H0 H v (.dct kvs)) : ∃ p ob xs, v = .ref p ∧ (p == sysModules) = false ∧ H p = some (dctO E.P E.w p ob xs) ∧ DPairs S xs kvs := by
  have key : ∀ {p : Addr} {o : HO}, v = .ref p → H p = some o → ObjD E S p (.dct kvs) o → ∃ p ob xs, v = .ref p ∧ (p == sysModules) = false ∧ H p = some (dctO E.P E.w p ob xs) ∧ DPairs S xs kvs := fun {p o} e h1 h2 => by
    obtain ⟨h0, ob, xs, rfl, h⟩ := h2
    exact ⟨p, ob, xs, e, h0, h1, h⟩
  cases m with
  | val => obtain ⟨p, o, h1, h2, h3⟩ := h; exact key h1 (sh _ _ h2) h3
  | own => obtain ⟨p, o, h1, _, _, h2, h3⟩ := h; exact key h1 h2 h3
  | rd =>
    rcases h with ⟨p, o, h1, h2, h3⟩ | ⟨p, o, h1, _, h2, h3⟩
    · exact key h1 (sh _ _ h2) h3
    · exact key h1 h2 h3

/-! ### items of lists and tuples -/
theorem DqAll.atI {S : Hp} {ds : List PyData} {vs : List V} {i : Int} {d : PyData} (h : DqAll S vs ds) (e : L2.atI ds i = some d) : ∃ v, L2.atI vs i = some v ∧ Dq S v d := by
  unfold L2.atI at e ⊢
  rw [h.length]
  obtain ⟨j, e1, e2⟩ := Option.bind_eq_some_iff.mp e
  obtain ⟨v, h1, h2⟩ := h.get e2
  exact ⟨v, by rw [e1]; exact h1, h2⟩
def dIx : DV → DV → Option DV
  | .dat (.tuple ds), .dat (.int i) => (L2.atI ds i).map .dat
  | .dat (.list ds), .dat (.int i) => (L2.atI ds i).map .dat
  | _, _ => none
theorem step_ix {K : PySem.W.Frag} : Step2 E m .val .val (fun x y H Q => rIxL K x y H Q ∨ rIxT K x y H Q) dIx := by
  intro S H0 H x y dx dy d Q sh tb hx hy e q
  unfold dIx at e
  split at e
  · obtain ⟨d, e1, rfl⟩ := Option.map_eq_some_iff.mp e
    cases hy
    obtain ⟨p, vs, rfl, h1, h2⟩ := rd_tup sh hx
    obtain ⟨v, h3, h4⟩ := h2.atI e1
    exact .inr ⟨p, vs, _, v, rfl, rfl, SqT.of h1, h3, q v S H (Grow.one sh tb) h4⟩
  · obtain ⟨d, e1, rfl⟩ := Option.map_eq_some_iff.mp e
    cases hy
    obtain ⟨p, vs, rfl, h1, h2⟩ := rd_list sh hx
    obtain ⟨v, h3, h4⟩ := h2.atI e1
    exact .inl ⟨p, vs, _, v, rfl, rfl, SqL.of h1, h3, q v S H (Grow.one sh tb) h4⟩
  · cases e
theorem pd_item (ha : PE X a (tE E m f1)) (hb : PE X b (tE E .val f2)) (hs : PlainIx b := by exact fun _ _ => rfl) : PE X (.Subscript a b pos) (tE E .val (e2 dIx f1 f2)) :=
  pd_ix (IxR.or ix_list ix_tup) step_ix ha hb hs

/-! ### slices -/
def eSl (f : DE → Option DV) (lo hi : DE → Option (Option Int)) : DE → Option DV := fun env => (f env).bind fun x => (lo env).bind fun l => (hi env).bind fun u => match x with
  | .dat (.tuple ds) => some (.dat (.tuple ((ds.drop (HT.sIx ds.length 0 l)).take (HT.sIx ds.length ds.length u - HT.sIx ds.length 0 l))))
  | .dat (.list ds) => some (.dat (.list ((ds.drop (HT.sIx ds.length 0 l)).take (HT.sIx ds.length ds.length u - HT.sIx ds.length 0 l))))
  | _ => none
def pN : DE → Option (Option Int) := fun _ => some none
def pS (f : DE → Option DV) : DE → Option (Option Int) := fun env => (f env).bind fun x => match x with
  | .dat (.int i) => some (some i)
  | _ => none
def tO (E : Fx) (g : DE → Option (Option Int)) : TO := fun σ H Q => ∃ S env o, RelE E env σ S H ∧ g env = some o ∧ ∀ S' H', Grow E.T S H S' H' → Q o H'
theorem _root_.L2.PO.imp {e : Option Expr} {t t' : TO} (h : PO X e t) (z : ∀ σ H Q, t' σ H Q → t σ H Q) : PO X e t' := ⟨fun pins s σ H Q I q => h.run pins s σ H Q I (z σ H Q q)⟩
theorem od_none : PO X none (tO E pN) := po_none.imp fun σ H Q ⟨S, env, o, rel, e, k⟩ => by
  cases e
  exact k S H rel.refl
theorem od_some (ha : PE X a (tE E .val f)) : PO X (some a) (tO E (pS f)) := (po_some ha).imp fun σ H Q ⟨S, env, o, rel, e, k⟩ => by
  unfold pS at e
  obtain ⟨dx, ex, e⟩ := Option.bind_eq_some_iff.mp e
  refine ⟨S, env, dx, rel, ex, fun x S' H' g hx => ?_⟩
  split at e
  · cases e
    cases hx
    exact ⟨_, rfl, k S' H' g⟩
  · cases e
theorem cut_whole {α : Type} (ds : List α) {l u : Option Int} (h1 : HT.sIx ds.length 0 l = 0) (h2 : HT.sIx ds.length ds.length u = ds.length) : (ds.drop (HT.sIx ds.length 0 l)).take (HT.sIx ds.length ds.length u - HT.sIx ds.length 0 l) = ds := by
  rw [h1, h2, List.drop_zero, Nat.sub_zero, List.take_length]
theorem pd_slice {lo hi : Option Expr} {gl gh : DE → Option (Option Int)} {p2 : Pos} (ha : PE X a (tE E .val f)) (hl : PO X lo (tO E gl)) (hh : PO X hi (tO E gh)) : PE X (.Subscript a (.Slice lo hi none p2) pos) (tE E .val (eSl f gl gh)) :=
  (pe_slice (SlR.or sl_tupA sl_list) ha hl hh).imp fun σ H Q ⟨S, env, d, rel, e, k⟩ => by
    unfold eSl at e
    obtain ⟨dx, ex, e⟩ := Option.bind_eq_some_iff.mp e
    obtain ⟨l, el, e⟩ := Option.bind_eq_some_iff.mp e
    obtain ⟨u, eu, e⟩ := Option.bind_eq_some_iff.mp e
    refine ⟨S, env, dx, rel, ex, fun x S1 H1 g1 hx => ⟨S1, env, l, rel.grow g1, el, fun S2 H2 g2 => ⟨S2, env, u, (rel.grow g1).grow g2, eu, fun S3 H3 g3 => ?_⟩⟩⟩
    have r3 := ((rel.grow g1).grow g2).grow g3
    have hx3 : Dn E S3 x dx := Dn.sub g3.ss (Dn.sub g2.ss hx)
    have g13 := (g1.trans g2).trans g3
    split at e
    · cases e
      obtain ⟨p, vs, rfl, _, h1, h2⟩ := Dq.sqt (K := X.K) r3.sh hx3
      have hn := h2.length
      refine .inl ⟨p, vs, rfl, h1, fun w => ?_, fun w t n => ?_⟩
      · rw [hn] at w
        rw [cut_whole _ w.1 w.2] at k
        exact k _ S3 H3 g13 hx3
      · obtain ⟨g, z⟩ := dq_lay_tup (T := E.T) r3.sh r3.tb n ((h2.drop (HT.sIx vs.length 0 l)).take (HT.sIx vs.length vs.length u - HT.sIx vs.length 0 l))
        have z' := k _ _ _ (g13.trans g) (by rw [← hn]; exact z)
        exact z'
    · cases e
      obtain ⟨p, vs, rfl, _, h1, h2⟩ := Dq.sql (K := X.K) r3.sh hx3
      have hn := h2.length
      refine .inr ⟨p, vs, rfl, h1, fun t n => ?_⟩
      obtain ⟨g, z⟩ := dq_lay_lst (T := E.T) r3.sh r3.tb n ((h2.drop (HT.sIx vs.length 0 l)).take (HT.sIx vs.length vs.length u - HT.sIx vs.length 0 l))
      exact k _ _ _ (g13.trans g) (by rw [← hn]; exact z)
    · cases e

/-! ### keys -/
mutual
def keyOf : PyData → Option NestedKey
  | .none => some .none
  | .int i => some (.num i)
  | .str x => some (.text x)
  | .tuple ds => (keysOf ds).map .tup
  | _ => none
def keysOf : List PyData → Option (List NestedKey)
  | [] => some []
  | d :: ds => (keyOf d).bind fun k => (keysOf ds).map (k :: ·)
end
mutual
theorem keyOf_data : ∀ (d : PyData) (k : NestedKey), keyOf d = some k → k.data = d
  | .none, k, h => by rw [keyOf] at h; cases h; rfl
  | .int i, k, h => by rw [keyOf] at h; cases h; rfl
  | .str x, k, h => by rw [keyOf] at h; cases h; rfl
  | .tuple ds, k, h => by
    rw [keyOf] at h
    obtain ⟨ks, h1, rfl⟩ := Option.map_eq_some_iff.mp h
    rw [NestedKey.data, keysOf_data ds ks h1]
  | .bool _, k, h => by rw [keyOf] at h <;> first | cases h | (intros; contradiction)
  | .list _, k, h => by rw [keyOf] at h <;> first | cases h | (intros; contradiction)
  | .dict _, k, h => by rw [keyOf] at h <;> first | cases h | (intros; contradiction)
theorem keysOf_data : ∀ (ds : List PyData) (ks : List NestedKey), keysOf ds = some ks → NestedKey.datas ks = ds
  | [], ks, h => by rw [keysOf] at h; cases h; rfl
  | d :: ds, ks, h => by
    rw [keysOf] at h
    obtain ⟨k, h1, h⟩ := Option.bind_eq_some_iff.mp h
    obtain ⟨r, h2, rfl⟩ := Option.map_eq_some_iff.mp h
    rw [NestedKey.datas, keyOf_data d k h1, keysOf_data ds r h2]
end
mutual
theorem nested_of {h : Heap} : ∀ (k : NestedKey) (v : Value) (as : List Addr), Reads h v k.data as → NestedIs h k v
  | .none, _, _, r => by rw [NestedKey.data] at r; cases r; exact .none
  | .num i, _, _, r => by rw [NestedKey.data] at r; cases r; exact .int _ _
  | .text x, _, _, r => by rw [NestedKey.data] at r; cases r; exact .text _ _
  | .tup ks, _, _, r => by
    rw [NestedKey.data] at r
    cases r with
    | tuple h1 h2 h3 h4 => exact .tup h1 h2 h3 (nested_all ks _ _ h4)
theorem nested_all {h : Heap} : ∀ (ks : List NestedKey) (vs : List Value) (as : List Addr), ReadsAll h vs (NestedKey.datas ks) as → NestedAll h ks vs
  | [], _, _, r => by rw [NestedKey.datas] at r; cases r; exact .nil
  | k :: ks, _, _, r => by
    rw [NestedKey.datas] at r
    cases r with
    | cons h1 h2 => exact .cons (nested_of k _ _ h1) (nested_all ks _ _ h2)
end
/-- a key of a dict: a tuple, not too deep -/
def keyT (x : DV) : Option NestedKey := match x with
  | .dat d => (keyOf d).bind fun k => if isKey k = true then some k else none
  | _ => none
theorem keyT_some {x : DV} {k : NestedKey} (h : keyT x = some k) : x = .dat k.data ∧ isKey k = true := by
  unfold keyT at h
  split at h
  · obtain ⟨k', h1, h⟩ := Option.bind_eq_some_iff.mp h
    split at h
    · cases h
      exact ⟨by rw [keyOf_data _ _ h1], by assumption⟩
    · cases h
  · cases h
section
variable {pins : List (Addr × Obj)} {σ : L2.St} {H : Hp} {s : Shared}
theorem is_key (I : Inv X pins σ H s) {p : Addr} {k : NestedKey} (h : Dq H (.ref p) k.data) (hk : isKey k = true) : (nestedKind X.prog X.w).is s.heap k p := by
  unfold isKey at hk
  simp only [Bool.and_eq_true, decide_eq_true_eq] at hk
  obtain ⟨as, r⟩ := Dp.reads I k.data (.ref p) (.ref p) (Dq.dp _ _ h) rfl
  exact ⟨nested_of k _ _ r, hk.1⟩
theorem key_ref {k : NestedKey} {v : V} {S : Hp} (h : Dq S v k.data) (hk : isKey k = true) : ∃ p, v = .ref p := by
  unfold isKey at hk
  simp only [Bool.and_eq_true, decide_eq_true_eq] at hk
  cases k with
  | tup ks => rw [NestedKey.data] at h; cases h; exact ⟨_, rfl⟩
  | _ => exact absurd hk.2 Bool.false_ne_true
theorem DPairs.is (I : Inv X pins σ H s) {xs : List (NestedKey × Addr × Value)} {kvs : List (NestedKey × PyData)} (h : DPairs H xs kvs) : ∀ x ∈ xs, (nestedKind X.prog X.w).is s.heap x.1 x.2.1 := by
  induction h with
  | nil => intro x hx; cases hx
  | cons r t ih =>
    intro x hx
    obtain ⟨r1, r2, r3, _⟩ := r
    rcases List.mem_cons.mp hx with e | hx
    · subst e
      rw [← r1] at r2 r3
      exact is_key I r3 r2
    · exact ih x hx
theorem dict_of (I : Inv X pins σ H s) {p : Addr} {ob : Obj} {xs : List (NestedKey × Addr × Value)} {kvs : List (NestedKey × PyData)} (h : H p = some (dctO X.prog X.w p ob xs)) (hp : DPairs H xs kvs) : s.heap.DictOfH (nestedKind X.prog X.w) p xs := by
  obtain ⟨⟨h1, h2, es, ep, h3, h4, h5⟩, _⟩ := I.hok p _ h
  exact ⟨ob, es, ep, h1, h2, h3, h4, hp.is I, h5⟩
end
def dFind (kvs : List (NestedKey × PyData)) (k : NestedKey) : Option PyData := (kvs.find? fun p => decide (p.1 = k)).map (·.2)
theorem DPairs.find {S : Hp} {xs : List (NestedKey × Addr × Value)} {kvs : List (NestedKey × PyData)} (h : DPairs S xs kvs) (k : NestedKey) :
    (dFind kvs k = none ∧ atKey xs k = none) ∨ ∃ d a u v, dFind kvs k = some d ∧ atKey xs k = some (a, u) ∧ RelV v u ∧ Dq S v d := by
  induction h with
  | nil => exact .inl ⟨rfl, rfl⟩
  | @cons x p xs kvs r t ih =>
    obtain ⟨r1, _, _, v, r3, r4⟩ := r
    by_cases e : p.1 = k
    · refine .inr ⟨p.2, x.2.1, x.2.2, v, ?_, ?_, r3, r4⟩
      · unfold dFind
        rw [List.find?_cons_of_pos (by exact decide_eq_true e)]; rfl
      · unfold atKey
        rw [List.find?_cons_of_pos (by exact decide_eq_true (r1.trans e))]; rfl
    · have e1 : dFind (p :: kvs) k = dFind kvs k := by
        unfold dFind
        rw [List.find?_cons_of_neg (by simpa using e)]
      have e2 : atKey (x :: xs) k = atKey xs k := by
        unfold atKey
        rw [List.find?_cons_of_neg (by simpa using fun z => e (r1.symm.trans z))]
      rw [e1, e2]
      exact ih
def dPut (kvs : List (NestedKey × PyData)) (k : NestedKey) (d : PyData) : List (NestedKey × PyData) :=
  if (dFind kvs k).isSome = true then kvs.map fun p => if p.1 = k then (p.1, d) else p else kvs ++ [(k, d)]
theorem DPairs.put {S : Hp} {xs : List (NestedKey × Addr × Value)} {kvs : List (NestedKey × PyData)} (h : DPairs S xs kvs) {k : NestedKey} {a : Addr} {u : Value} {v : V} {d : PyData} (hk : isKey k = true) (ha : Dq S (.ref a) k.data) (rv : RelV v u) (hv : Dq S v d) :
    DPairs S (storedH xs k a u) (dPut kvs k d) := by
  have mp : DPairs S (xs.map (putAt k u)) (kvs.map fun p => if p.1 = k then (p.1, d) else p) := by
    clear ha hk
    induction h with
    | nil => exact .nil
    | @cons x p xs kvs r t ih =>
      refine .cons ?_ ih
      obtain ⟨r1, r2, r3, v', r4, r5⟩ := r
      unfold putAt
      by_cases e : p.1 = k
      · rw [if_pos (r1.trans e)]
        show _ = (if p.1 = k then (p.1, d) else p).1 ∧ isKey (if p.1 = k then (p.1, d) else p).1 = true ∧ Dq S _ (if p.1 = k then (p.1, d) else p).1.data ∧ ∃ v, RelV v _ ∧ Dq S v (if p.1 = k then (p.1, d) else p).2
        rw [if_pos e]
        exact ⟨r1, r2, r3, v, rv, hv⟩
      · rw [if_neg fun z => e (r1.symm.trans z)]
        show _ = (if p.1 = k then (p.1, d) else p).1 ∧ isKey (if p.1 = k then (p.1, d) else p).1 = true ∧ Dq S _ (if p.1 = k then (p.1, d) else p).1.data ∧ ∃ v, RelV v _ ∧ Dq S v (if p.1 = k then (p.1, d) else p).2
        rw [if_neg e]
        exact ⟨r1, r2, r3, v', r4, r5⟩
  have app : DPairs S (xs ++ [(k, a, u)]) (kvs ++ [(k, d)]) := by
    clear mp
    induction h with
    | nil => exact .cons ⟨rfl, hk, ha, v, rv, hv⟩ .nil
    | cons r t ih => exact .cons r ih
  rcases h.find k with ⟨e1, e2⟩ | ⟨d', a', u', v', e1, e2, _⟩
  · unfold storedH dPut
    rw [e1, e2]
    exact app
  · unfold storedH dPut
    rw [e1, e2]
    exact mp
theorem DPairs.length {S : Hp} {xs : List (NestedKey × Addr × Value)} {kvs : List (NestedKey × PyData)} (h : DPairs S xs kvs) : xs.length = kvs.length := Paired.length h
end
end FD
end

section
set_option Elab.async false
set_option linter.all false
set_option maxRecDepth 100000
set_option maxHeartbeats 4000000
/-! FD5: in, not in; dicts with nested keys: in, d[k], d.get(k, x), {}, {k: v}. -/
namespace FD
open PySem PySem.Spec PyProof.Rows L2
section
variable {X : Cx} {E : Fx} {m m1 m2 : M} {f f1 f2 f3 : DE → Option DV} {a b c : Expr} {pos : Pos} {T : List Addr} {k : Nat}

theorem dctO_ok {P : Program} {w : World} {H : Hp} {h : Heap} {p : Addr} {xs : List (NestedKey × Addr × Value)} (d : h.DictOfH (nestedKind P w) p xs) : ∃ ob, ObjOk P w H h p (dctO P w p ob xs) := by
  obtain ⟨o, es, ep, h1, h2, h3, h4, _, h5⟩ := d
  refine ⟨o, ⟨h1, h2, es, ep, h3, h4, h5⟩, ⟨o, h1⟩, fun g1 g2 z q => ?_⟩
  obtain ⟨h1, h2, es, ep, h3, h4, h5⟩ := z
  exact ⟨q o h1, h2, es, ep, h3, h4, h5⟩

/-! ### in, not in -/
def inOk (xs : List PyData) (x : PyData) : Bool := PyData.plainAll xs && (x.plain && decide (min (PyData.depthAll xs) x.depth ≤ 40))
theorem inOk_of {xs : List PyData} {x : PyData} (h : inOk xs x = true) : PyData.plainAll xs = true ∧ x.plain = true ∧ min (PyData.depthAll xs) x.depth ≤ 40 := by
  unfold inOk at h
  simp only [Bool.and_eq_true, decide_eq_true_eq] at h
  exact ⟨h.1, h.2.1, h.2.2⟩
def dIn (n : Bool) : DV → DV → Option DV
  | x, .dct kvs => (keyT x).map fun k => dB (n ^^ (dFind kvs k).isSome)
  | .dat x, .dat (.list xs) => if inOk xs x = true then some (dB (n ^^ xs.any fun y => PyData.eqv y x)) else none
  | .dat x, .dat (.tuple xs) => if inOk xs x = true then some (dB (n ^^ xs.any fun y => PyData.eqv y x)) else none
  | _, _ => none
def rInP (X : Cx) (n : Bool) : R2 := fun x y H Q =>
  (∃ d xs, Dp X.K H x d ∧ (Dp X.K H y (.list xs) ∨ Dp X.K H y (.tuple xs)) ∧ inOk xs d = true ∧ Q (.bl (n ^^ xs.any fun z => PyData.eqv z d)) H) ∨
  (∃ key q p ob xs kvs, x = .ref q ∧ y = .ref p ∧ (p == sysModules) = false ∧ H p = some (dctO X.prog X.w p ob xs) ∧ DPairs H xs kvs ∧ isKey key = true ∧ Dq H (.ref q) key.data ∧ Q (.bl (n ^^ (dFind kvs key).isSome)) H)
theorem room_d (hr : Room k X.A) : (nestedKind X.prog X.w).room X.A.in1 := by
  have := hr.un
  show X.A.units + 1 + 8 < cLine
  omega
theorem op_inP (hr : Room k X.A) : OpR X (compareOp .In) (rInP X false) := by
  intro pins s σ H x y v u Q I rx ry h
  rcases h with ⟨d, xs, hd, he, hs, q⟩ | ⟨key, q', p, ob, xs, kvs, rfl, rfl, hp, hH, hk, ik, kd, q⟩
  · obtain ⟨as, r1⟩ := Dp.reads I d x v hd rx
    obtain ⟨h1, h2, h3⟩ := inOk_of hs
    have hu : X.A.units + 1 + min (PyData.depthAll xs) d.depth < cLine := by have := hr.un; omega
    rcases he with he | he
    · obtain ⟨bs, r2⟩ := Dp.reads I _ y u he ry
      exact SeqAt.in_list_data r2 r1 h1 h2 hu ⟨.bl _, H, I, by rw [Bool.false_xor]; rfl, q⟩
    · obtain ⟨bs, r2⟩ := Dp.reads I _ y u he ry
      exact SeqAt.in_tuple_data r2 r1 h1 h2 hu ⟨.bl _, H, I, by rw [Bool.false_xor]; rfl, q⟩
  · cases rx; cases ry
    have dd := dict_of I hH hk
    refine wpAny_in_heap (room_d hr) (is_key I kd ik) hp dd ⟨.bl _, H, I.tok _, ?_, q⟩
    rw [Bool.false_xor]
    rcases hk.find key with ⟨e1, e2⟩ | ⟨d, a', u', v', e1, e2, _⟩
    · rw [e1, e2]; rfl
    · rw [e1, e2]; rfl
theorem op_notInP (hr : Room k X.A) : OpR X (compareOp .NotIn) (rInP X true) := by
  intro pins s σ H x y v u Q I rx ry h
  rcases h with ⟨d, xs, hd, he, hs, q⟩ | ⟨key, q', p, ob, xs, kvs, rfl, rfl, hp, hH, hk, ik, kd, q⟩
  · obtain ⟨as, r1⟩ := Dp.reads I d x v hd rx
    obtain ⟨h1, h2, h3⟩ := inOk_of hs
    have hu : X.A.units + 1 + min (PyData.depthAll xs) d.depth < cLine := by have := hr.un; omega
    rcases he with he | he
    · obtain ⟨bs, r2⟩ := Dp.reads I _ y u he ry
      exact SeqAt.notIn_list_data r2 r1 h1 h2 hu ⟨.bl _, H, I, by rw [Bool.true_xor]; rfl, q⟩
    · obtain ⟨bs, r2⟩ := Dp.reads I _ y u he ry
      exact SeqAt.notIn_tuple_data r2 r1 h1 h2 hu ⟨.bl _, H, I, by rw [Bool.true_xor]; rfl, q⟩
  · cases rx; cases ry
    have dd := dict_of I hH hk
    have key2 : (pairsH xs).length = (pairsH xs).length := rfl
    refine notIn_keyed (kvs := pairsH xs) (room_d hr) (is_key I kd ik) hp ⟨xs, dd, rfl⟩ ⟨.bl _, H, I.tok _, ?_, q⟩
    rw [Bool.true_xor, valueAt_pairsH]
    rcases hk.find key with ⟨e1, e2⟩ | ⟨d, a', u', v', e1, e2, _⟩
    · rw [e1, e2]; rfl
    · rw [e1, e2]; rfl
theorem step_in {X : Cx} {n : Bool} (hP : X.prog = E.P) (hw : X.w = E.w) : Step2 E .val m .val (rInP X n) (dIn n) := by
  intro S H0 H x y dx dy d Q sh tb hx hy e q
  unfold dIn at e
  split at e
  · obtain ⟨key, ek, rfl⟩ := Option.map_eq_some_iff.mp e
    obtain ⟨rfl, ik⟩ := keyT_some ek
    obtain ⟨p, ob, xs, rfl, hp, hH, hk⟩ := rd_dct sh hy
    have hx : Dq S x key.data := hx
    obtain ⟨q', rfl⟩ := key_ref hx ik
    exact .inr ⟨key, q', p, ob, xs, _, rfl, rfl, hp, by rw [hP, hw]; exact hH, hk.sub sh, ik, Dq.sub sh _ _ hx, q _ S H (Grow.one sh tb) (Dq.bl _)⟩
  · split at e
    · cases e
      exact .inl ⟨_, _, Dq.dp _ _ (Dq.sub sh _ _ hx), .inl (dp_of sh hy), by assumption, q _ S H (Grow.one sh tb) (Dq.bl _)⟩
    · cases e
  · split at e
    · cases e
      exact .inl ⟨_, _, Dq.dp _ _ (Dq.sub sh _ _ hx), .inr (dp_of sh hy), by assumption, q _ S H (Grow.one sh tb) (Dq.bl _)⟩
    · cases e
  · cases e
theorem c_in (hr : Room k X.A) : CmpD X (fx X T) .In .val m (dIn false) := ⟨⟨_, op_inP hr, step_in rfl rfl⟩, fun x y d e => by
  unfold dIn at e
  split at e
  · obtain ⟨_, _, rfl⟩ := Option.map_eq_some_iff.mp e; exact ⟨_, rfl⟩
  · split at e <;> cases e <;> exact ⟨_, rfl⟩
  · split at e <;> cases e <;> exact ⟨_, rfl⟩
  · cases e⟩
theorem c_nin (hr : Room k X.A) : CmpD X (fx X T) .NotIn .val m (dIn true) := ⟨⟨_, op_notInP hr, step_in rfl rfl⟩, fun x y d e => by
  unfold dIn at e
  split at e
  · obtain ⟨_, _, rfl⟩ := Option.map_eq_some_iff.mp e; exact ⟨_, rfl⟩
  · split at e <;> cases e <;> exact ⟨_, rfl⟩
  · split at e <;> cases e <;> exact ⟨_, rfl⟩
  · cases e⟩

/-! ### d[k] -/
def dGet : DV → DV → Option DV
  | .dct kvs, x => (keyT x).bind fun k => (dFind kvs k).map .dat
  | _, _ => none
theorem dGet_some {x y d : DV} (h : dGet x y = some d) : ∃ kvs key dv, x = .dct kvs ∧ keyT y = some key ∧ dFind kvs key = some dv ∧ d = .dat dv := by
  unfold dGet at h
  split at h
  · obtain ⟨key, ek, h⟩ := Option.bind_eq_some_iff.mp h
    obtain ⟨dv, ef, rfl⟩ := Option.map_eq_some_iff.mp h
    exact ⟨_, key, dv, rfl, ek, ef, rfl⟩
  · cases h
theorem pd_dget (hr : Room k X.A) (ha : PE X a (tE (fx X T) m f1)) (hb : PE X b (tE (fx X T) .val f2)) (hs : NoSl b := by exact fun _ _ => rfl) : PE X (.Subscript a b pos) (tE (fx X T) .val (e2 dGet f1 f2)) := by
  refine ⟨fun pins s σ H Q I ⟨S, env, d, rel, e, q⟩ => ?_⟩
  unfold e2 at e
  obtain ⟨dx, ex, e⟩ := Option.bind_eq_some_iff.mp e
  obtain ⟨dy, ey, e⟩ := Option.bind_eq_some_iff.mp e
  obtain ⟨kvs, key, dv, rfl, ek, ef, rfl⟩ := dGet_some e
  · obtain ⟨rfl, ik⟩ := keyT_some ek
    refine subD_of PySem.F.slot_dict_getitem.lookup hs (thn (ha.run pins s σ H (fun v H1 => ∃ S1, RelE (fx X T) env σ S1 H1 ∧ Grow T S H S1 H1 ∧ VOk (fx X T) m S1 H H1 v (.dct kvs)) I ⟨S, env, _, rel, ex, fun v S1 H1 g hv => ⟨S1, rel.grow g, g, hv⟩⟩) fun u s1 ⟨x, H1, I1, rx, S1, rel1, g1, hx⟩ =>
      thn (hb.run pins s1 σ H1 (fun v H2 => ∃ S2, RelE (fx X T) env σ S2 H2 ∧ Grow T S1 H1 S2 H2 ∧ Dq S2 v key.data) I1 ⟨S1, env, _, rel1, ey, fun v S2 H2 g hv => ⟨S2, rel1.grow g, g, hv⟩⟩) fun iv s2 ⟨y, H2, I2, ry, S2, rel2, g2, hy⟩ => ?_)
    obtain ⟨p, ob, xs, rfl, hp, hH, hk⟩ := rd_dct rel2.sh (hx.grow rel1.tabs g2)
    obtain ⟨q', rfl⟩ := key_ref hy ik
    cases rx; cases ry
    have dd := dict_of I2 hH (hk.sub rel2.sh)
    refine ⟨dd.typeIs, ?_⟩
    rcases hk.find key with ⟨e1, e2⟩ | ⟨d', a', u', v', e1, e2, rv, hv⟩
    · rw [e1] at ef; cases ef
    · rw [e1] at ef; cases ef
      exact wpAny_getItem_heap (room_d hr) (is_key I2 (Dq.sub rel2.sh _ _ hy) ik) dd e2 ⟨v', H2, I2.tok _, rv, q v' S2 H2 (g1.trans g2) hv⟩

/-! ### d.get(k, x) -/
def dGet2 (x y z : DV) : Option DV := match x, z with
  | .dct kvs, .dat d => (keyT y).map fun k => .dat ((dFind kvs k).getD d)
  | _, _ => none
theorem dGet2_some {x y z d : DV} (h : dGet2 x y z = some d) : ∃ kvs key dz, x = .dct kvs ∧ z = .dat dz ∧ keyT y = some key ∧ d = .dat ((dFind kvs key).getD dz) := by
  unfold dGet2 at h
  split at h
  · obtain ⟨key, ek, rfl⟩ := Option.map_eq_some_iff.mp h
    exact ⟨_, key, _, rfl, rfl, ek, rfl⟩
  · cases h
def e3 (g : DV → DV → DV → Option DV) (f1 f2 f3 : DE → Option DV) : DE → Option DV := fun env => (f1 env).bind fun x => (f2 env).bind fun y => (f3 env).bind fun z => g x y z
theorem pd_dget2 {apos cpos : Pos} (hr : Room k X.A) (ha : PE X a (tE (fx X T) m f1)) (hb : PE X b (tE (fx X T) .val f2)) (hc : PE X c (tE (fx X T) .val f3)) (mm : M2 X a "get" apos b c cpos) : PE X (.Call (.Attribute a "get" apos) [b, c] [] cpos) (tE (fx X T) .val (e3 dGet2 f1 f2 f3)) := by
  refine ⟨fun pins s σ H Q I ⟨S, env, d, rel, e, q⟩ => ?_⟩
  unfold e3 at e
  obtain ⟨dx, ex, e⟩ := Option.bind_eq_some_iff.mp e
  obtain ⟨dy, ey, e⟩ := Option.bind_eq_some_iff.mp e
  obtain ⟨dz, ez, e⟩ := Option.bind_eq_some_iff.mp e
  obtain ⟨kvs, key, dd0, rfl, rfl, ek, rfl⟩ := dGet2_some e
  · obtain ⟨rfl, ik⟩ := keyT_some ek
    refine wpAny_Call_method mm.base mm.few mm.line PySem.F.plainAttrs_dict PySem.F.slot_dict_get PySem.F.type_dict_get (thn (ha.run pins s σ H (fun v H1 => ∃ S1, RelE (fx X T) env σ S1 H1 ∧ Grow T S H S1 H1 ∧ VOk (fx X T) m S1 H H1 v (.dct kvs)) I ⟨S, env, _, rel, ex, fun v S1 H1 g hv => ⟨S1, rel.grow g, g, hv⟩⟩) fun u s1 ⟨x, H1, I1, rx, S1, rel1, g1, hx⟩ => ?_)
    obtain ⟨p, ob, xs, rfl, hp, hH, hk⟩ := rd_dct rel1.sh hx
    cases rx
    have dd := dict_of I1 hH (hk.sub rel1.sh)
    refine ⟨dd.typeIs, fun b' q' => ?_, ?_⟩
    · cases q'
      obtain ⟨ob, _, _, h1, h2, _⟩ := dd
      exact ⟨ob, h1, h2.2.1⟩
    rw [mm.trees]
    refine Calls.callWith_builtin rfl (Calls.evalArgs_plain (Calls.spliced_cons (thn (hb.run pins s1 σ H1 (fun v H2 => ∃ S2, RelE (fx X T) env σ S2 H2 ∧ Grow T S1 H1 S2 H2 ∧ Dq S2 v key.data) I1 ⟨S1, env, _, rel1, ey, fun v S2 H2 g hv => ⟨S2, rel1.grow g, g, hv⟩⟩) fun iv s2 ⟨y, H2, I2, ry, S2, rel2, g2, hy⟩ =>
      Calls.spliced_cons (thn (hc.run pins s2 σ H2 (fun v H3 => ∃ S3, RelE (fx X T) env σ S3 H3 ∧ Grow T S2 H2 S3 H3 ∧ Dq S3 v dd0) I2 ⟨S2, env, _, rel2, ez, fun v S3 H3 g hv => ⟨S3, rel2.grow g, g, hv⟩⟩) fun fv s3 ⟨z, H3, I3, rz, S3, rel3, g3, hz⟩ => Calls.spliced_nil ?_))))
    have hx3 : VOk (fx X T) m S3 H H3 (.ref p) (.dct kvs) := (hx.grow rel1.tabs g2).grow rel2.tabs g3
    obtain ⟨p', ob', xs', e', hp', hH', hk'⟩ := rd_dct rel3.sh hx3
    cases e'
    have hy3 := Dq.sub g3.ss _ _ hy
    obtain ⟨q', rfl⟩ := key_ref hy3 ik
    cases ry
    have dd3 := dict_of I3 hH' (hk'.sub rel3.sh)
    refine getOr_keyed (kvs := pairsH xs') (room_d hr) (is_key I3 (Dq.sub rel3.sh _ _ hy3) ik) hp' ⟨xs', dd3, rfl⟩ ?_
    rw [valueAt_pairsH]
    have g := (g1.trans g2).trans g3
    rcases hk'.find key with ⟨e1, e2⟩ | ⟨d', a', u', v', e1, e2, rv, hv⟩
    · rw [e1] at q
      rw [e2]
      exact ⟨z, H3, I3.tok _, rz, q z S3 H3 g hz⟩
    · rw [e1] at q
      rw [e2]
      exact ⟨v', H3, I3.tok _, rv, q v' S3 H3 g hv⟩

/-! ### {} and {k: v} -/
def eDct0 : DE → Option DV := fun _ => some (.dct [])
theorem dict_new (I : Inv X pins σ H s) : s.heap.objs.size ≠ sysModules := Nat.ne_of_gt I.big
theorem own_dct {S H : Hp} {p : Addr} {ob : Obj} {xs : List (NestedKey × Addr × Value)} {kvs : List (NestedKey × PyData)} (sh : Sub S H) (tb : ∀ P ∈ E.T, GxR.TabG H P ∧ S P = none) (n : H p = none) (hp : (p == sysModules) = false) (h : DPairs S xs kvs) :
    Grow E.T S H S (upd H p (dctO E.P E.w p ob xs)) ∧ VOk E .own S H (upd H p (dctO E.P E.w p ob xs)) (.ref p) (.dct kvs) :=
  ⟨Grow.lay0 sh (fun P hP => (tb P hP).1) n, p, _, rfl, n, (by
    cases e : S p with
    | none => rfl
    | some o => rw [sh _ _ e] at n; cases n), upd_same, hp, ob, xs, rfl, h⟩
theorem pd_dct0 : PE X (.Dict [] [] pos) (tE (fx X T) .own eDct0) := by
  refine ⟨fun pins s σ H Q I ⟨S, env, d, rel, e, q⟩ => ?_⟩
  cases e
  have n : H s.heap.objs.size = none := I.hok.fresh (Nat.le_refl _)
  have dd := Heap.DictOfH.new (knd := nestedKind X.prog X.w) s.heap
  obtain ⟨ob, ok⟩ := dctO_ok (H := fun _ => none) dd
  obtain ⟨g, z⟩ := own_dct (E := fx X T) (ob := ob) rel.sh rel.tb n (beq_eq_false_iff_ne.mpr (dict_new I)) (Paired.nil : DPairs S [] [])
  exact wpAny_Dict_empty ⟨.ref s.heap.objs.size, _, I.laid (a := s.heap.objs.size) (o := dctO X.prog X.w s.heap.objs.size ob []) (t' := s.toks) (fun _ _ q => Heap.get?_push_of_some _ q) (Nat.le_refl _) ok, rfl, q _ _ _ g z⟩
theorem Dict_H {prog : Program} {w : World} {A : Around} {Ex : Value → Shared → Prop} {s : Shared} {knd : HeapKind prog w NestedKey} {env : Env} {keys : List (Option Expr)} {values : List Expr} {pos : Pos} {Q : Value → Shared → Prop} (hu : knd.room A)
    (hall : keys.all (·.isSome) = true) (hl : keys.length = values.length) (h0 : keys ≠ []) (hlen : keys.length ≤ 15)
    (h : wpAny (model prog w) A (evalPairs (pairTrees keys values env pos)) (fun vs s₁ => ∃ ps, CarriesH knd s₁.heap vs ps ∧ s₁.heap.DictOfH knd s.heap.objs.size [] ∧
      ∀ h' tk, h'.DictOfH knd s.heap.objs.size (storedAllH [] ps) → Heap.SameBut s.heap.objs.size s₁.heap h' → Q (.ref s.heap.objs.size) { s₁ with heap := h', toks := tk }) Ex
      { s with heap := s.heap.push { cls := .type "dict", data := .dict #[] } }) :
    wpAny (model prog w) A (eval (.Dict keys values pos) env) Q Ex s := by
  have hn := pairTrees_length keys values env pos hall hl
  have hne : pairTrees keys values env pos ≠ [] := by
    intro he
    rw [he] at hn
    exact h0 (List.length_eq_zero_iff.mp hn.symm)
  rw [arm_eval_Dict, zip_pairTrees keys values env pos hall hl, dictDisplay_pairs (pairTrees keys values env pos) hne (by omega)]
  exact wpAny_bind (wpAny_standAt (wpAny_bind (wpAny_subDictH (knd := knd) (Q := fun d s' => wpAny (model prog w) A (pure (Value.ref d)) Q Ex s') hu (by omega)
    (wpAny_mono h (fun vs s₁ h₁ => by obtain ⟨ps, hc, hm, hq⟩ := h₁; exact ⟨ps, hc, hm, fun h' tk a b => wpAny_pure (hq h' tk a b)⟩) fun _ _ e => e))))
def eDct1 (f1 f2 : DE → Option DV) : DE → Option DV := fun env => (f1 env).bind fun x => (f2 env).bind fun y => (keyT x).bind fun k => match y with
  | .dat d => some (.dct [(k, d)])
  | _ => none
theorem pd_dct1 (hr : Room k X.A) (ha : PE X a (tE (fx X T) .val f1)) (hb : PE X b (tE (fx X T) .val f2)) : PE X (.Dict [some a] [b] pos) (tE (fx X T) .own (eDct1 f1 f2)) := by
  refine ⟨fun pins s σ H Q I ⟨S, env, d, rel, e, q⟩ => ?_⟩
  unfold eDct1 at e
  obtain ⟨dx, ex, e⟩ := Option.bind_eq_some_iff.mp e
  obtain ⟨dy, ey, e⟩ := Option.bind_eq_some_iff.mp e
  obtain ⟨key, ek, e⟩ := Option.bind_eq_some_iff.mp e
  obtain ⟨dv, rfl, rfl⟩ : ∃ dv, dy = .dat dv ∧ d = .dct [(key, dv)] := by
    split at e
    · cases e; exact ⟨_, rfl, rfl⟩
    · cases e
  obtain ⟨rfl, ik⟩ := keyT_some ek
  have n : H s.heap.objs.size = none := I.hok.fresh (Nat.le_refl _)
  have dd := Heap.DictOfH.new (knd := nestedKind X.prog X.w) s.heap
  have hpn : (s.heap.objs.size == sysModules) = false := beq_eq_false_iff_ne.mpr (dict_new I)
  obtain ⟨ob0, ok0⟩ := dctO_ok (H := fun _ => none) dd
  have I0 := I.laid (a := s.heap.objs.size) (o := dctO X.prog X.w s.heap.objs.size ob0 []) (h' := s.heap.push { cls := .type "dict", data := .dict #[] }) (t' := s.toks) (fun _ _ q => Heap.get?_push_of_some _ q) (Nat.le_refl _) ok0
  obtain ⟨g0, z0⟩ := own_dct (E := fx X T) (ob := ob0) rel.sh rel.tb n hpn (Paired.nil : DPairs S [] [])
  have rel0 := rel.grow g0
  refine Dict_H (knd := nestedKind X.prog X.w) (by have := hr.un; show X.A.units + 8 < cLine; omega) rfl rfl (by simp) (by simp) ?_
  refine pairTrees_cons_walk (thn (ha.run pins _ σ _ (fun v H1 => ∃ S1, Grow T S (upd H s.heap.objs.size (dctO X.prog X.w s.heap.objs.size ob0 [])) S1 H1 ∧ Dq S1 v key.data) I0 ⟨S, env, _, rel0, ex, fun v S1 H1 g hv => ⟨S1, g, hv⟩⟩) fun u s1 ⟨x, H1, I1, rx, S1, g1, hx⟩ =>
    thn (hb.run pins s1 σ H1 (fun v H2 => ∃ S2, Grow T S1 H1 S2 H2 ∧ Dq S2 v dv) I1 ⟨S1, env, _, rel0.grow g1, ey, fun v S2 H2 g hv => ⟨S2, g, hv⟩⟩) fun iv s2 ⟨y, H2, I2, ry, S2, g2, hy⟩ => pairTrees_nil_walk ?_)
  have rel2 := (rel0.grow g1).grow g2
  have hx2 := Dq.sub g2.ss _ _ hx
  have z2 : VOk (fx X T) .own S2 H H2 (.ref s.heap.objs.size) (.dct []) := (z0.grow rel0.tabs g1).grow (rel0.grow g1).tabs g2
  obtain ⟨p, ob, xs, e', hp, hH, hk⟩ := rd_dct rel2.sh z2
  cases e'
  have : xs = [] := by cases hk; rfl
  subst this
  obtain ⟨q', rfl⟩ := key_ref hx2 ik
  cases rx
  have dd2 := dict_of I2 hH (hk.sub rel2.sh)
  refine ⟨[(key, q', iv)], ⟨rfl, rfl, is_key I2 (Dq.sub rel2.sh _ _ hx2) ik, trivial⟩, dd2, fun h' tk dd' sb => ?_⟩
  obtain ⟨ob3, ok3⟩ := dctO_ok (H := fun _ => none) dd'
  have I3 := d_write (a := s.heap.objs.size) (t' := tk) (ob := dctO X.prog X.w s.heap.objs.size ob3 (storedAllH [] [(key, q', iv)])) I2 (by rw [hH]; exact True.intro) sb (by obtain ⟨q, _, _, hq, _⟩ := dd'; exact ⟨q, hq⟩) ok3
  have g02 : Grow T S H S2 H2 := (g0.trans g1).trans g2
  have hS2 : S2 s.heap.objs.size = none := by
    obtain ⟨_, _, e', _, h3, _⟩ := z2
    cases e'; exact h3
  refine ⟨.ref s.heap.objs.size, _, I3, rfl, q _ S2 _ ⟨g02.ss, fun b u e => ?_, fun b u nb e => ?_, fun b u e m => g02.nw b u e m, fun P hP => ?_⟩ ⟨_, _, rfl, n, hS2, upd_same, hp, _, _, rfl, ?_⟩⟩
  · rw [upd_ne (fun z => by rw [z, hS2] at e; cases e)]; exact g02.sh b u e
  · rw [upd_ne (ne_of_none e n)]; exact g02.hh b u nb e
  · obtain ⟨ps, e, r⟩ := g02.tb P hP
    refine ⟨ps, ?_, r⟩
    rw [upd_ne (fun z => by rw [z, hH] at e; cases e)]; exact e
  · exact .cons ⟨rfl, ik, hx2, y, ry, hy⟩ .nil
end
end FD
end

section
set_option Elab.async false
set_option linter.all false
set_option maxRecDepth 100000
set_option maxHeartbeats 4000000
/-! FD6: calls of built-ins: len, int, tuple, list, sorted, max, sum, isinstance, index, set. -/
namespace FD
open PySem PySem.Spec PyProof.Rows L2
section
variable {X : Cx} {E : Fx} {m m1 m2 : M} {f f1 f2 f3 : DE → Option DV} {a b c : Expr} {pos p : Pos} {T : List Addr} {k : Nat} {x : Str} {id : String}

def Step1 (E : Fx) (m1 m : M) (r : List V → Hp → VK → Prop) (g : DV → Option DV) : Prop := ∀ (S H0 H : Hp) (x : V) (dx d : DV) (Q : VK), Sub S H → (∀ P ∈ E.T, GxR.TabG H P ∧ S P = none) → VOk E m1 S H0 H x dx → g dx = some d →
  (∀ v S' H', Grow E.T S H S' H' → VOk E m S' H H' v d → Q v H') → r [x] H Q
theorem tE1 {r : List V → Hp → VK → Prop} {g : DV → Option DV} (hk : Step1 E m1 m r g) {σ : L2.St} {H : Hp} {Q : VK} (h : tE E m (e1 g f1) σ H Q) : tCB r (tCons (tE E m1 f1) tNil) σ H Q := by
  obtain ⟨S, env, d, rel, e, q⟩ := h
  unfold e1 at e
  obtain ⟨dx, ex, e⟩ := Option.bind_eq_some_iff.mp e
  refine ⟨S, env, dx, rel, ex, fun v S1 H1 g1 hv => ?_⟩
  have r1 := rel.grow g1
  exact hk S1 H H1 v dx d Q r1.sh r1.tb hv e fun v' S' H' g2 hv' => q v' S' H' (g1.trans g2) (hv'.back fun a => g1.free)
theorem pd_callB {r : List V → Hp → VK → Prop} {g : DV → Option DV} (hc : CallR X (.builtin id) r) (hk : Step1 E m1 m r g) (hg : Gl X x) (hm : X.mg x = none) (hv : bootBuiltins x = some (.builtin id)) (ha : PE X a (tE E m1 f1)) (hn : x ≠ "__name__" := by decide) (hdb : (x == ("__debug__" : Str)) = false := by decide)
    (he : starEach [a] X.env = (false, eval a X.env) :: starEach [] X.env := by rfl) (hpl : (backTo pos (starEach [] X.env)).any (·.1) = false := by rfl) : PE X (.Call (.Name x p) [a] [] pos) (tE E m (e1 g f1)) :=
  (pe_callB hc hg hm hv (pa_cons ha pa_nil he) hn hdb he hpl).imp fun _ _ _ q => tE1 hk q
theorem pd_callTy {T : String} {r : List V → Hp → VK → Prop} {g : DV → Option DV} (hc : CallR X (.type T) r) (hk : Step1 E m1 m r g) (hg : Gl X x) (hm : X.mg x = none) (hv : bootBuiltins x = some (.type T)) (ha : PE X a (tE E m1 f1)) (hn : x ≠ "__name__" := by decide) (hdb : (x == ("__debug__" : Str)) = false := by decide)
    (he : starEach [a] X.env = (false, eval a X.env) :: starEach [] X.env := by rfl) (hpl : (backTo pos (starEach [] X.env)).any (·.1) = false := by rfl) : PE X (.Call (.Name x p) [a] [] pos) (tE E m (e1 g f1)) :=
  (pe_callTy hc hg hm hv (pa_cons ha pa_nil he) hn hdb he hpl).imp fun _ _ _ q => tE1 hk q

/-! len, int, tuple, list -/
def dLen : DV → Option DV
  | .dat (.tuple ds) => some (.dat (.int ds.length))
  | .dat (.list ds) => some (.dat (.int ds.length))
  | _ => none
theorem pd_len (hm : X.mg "len" = none) (ha : PE X a (tE E m1 f1)) (hg : Gl X "len" := by rfl) (he : starEach [a] X.env = (false, eval a X.env) :: starEach [] X.env := by rfl) : PE X (.Call (.Name "len" p) [a] [] pos) (tE E .val (e1 dLen f1)) := by
  refine pd_callB call_len_seq (fun S H0 H x dx d Q sh tb hx e q => ?_) hg hm PySem.boot_len ha (he := he)
  unfold dLen at e
  split at e
  · cases e
    obtain ⟨p, vs, rfl, h1, h2⟩ := rd_tup sh hx
    exact ⟨p, vs, rfl, .inr (SqT.of h1), q _ S H (Grow.one sh tb) (by rw [h2.length]; exact Dq.int _)⟩
  · cases e
    obtain ⟨p, vs, rfl, h1, h2⟩ := rd_list sh hx
    exact ⟨p, vs, rfl, .inl (SqL.of h1), q _ S H (Grow.one sh tb) (by rw [h2.length]; exact Dq.int _)⟩
  · cases e
def dInt : DV → Option DV
  | .dat (.int i) => some (.dat (.int i))
  | _ => none
theorem pd_toint (hm : X.mg "int" = none) (ha : PE X a (tE E .val f1)) (hg : Gl X "int" := by rfl) (he : starEach [a] X.env = (false, eval a X.env) :: starEach [] X.env := by rfl) : PE X (.Call (.Name "int" p) [a] [] pos) (tE E .val (e1 dInt f1)) := by
  refine pd_callTy call_int1 (fun S H0 H x dx d Q sh tb hx e q => ?_) hg hm PyProof.Rows.boot_int ha (he := he)
  unfold dInt at e
  split at e
  · cases e
    cases hx
    exact .inl ⟨_, rfl, q _ S H (Grow.one sh tb) (Dq.int _)⟩
  · cases e
theorem rd_tupD {S H0 H : Hp} {v : V} {ds : List PyData} (hx : VOk E m S H0 H v (.dat (.tuple ds))) : Dq S v (.tuple ds) := by
  cases m with
  | val => exact hx
  | own => obtain ⟨_, _, _, _, _, _, h⟩ := hx; exact h.elim
  | rd =>
    rcases hx with h | ⟨_, _, _, _, _, h⟩
    · exact h
    · exact h.elim
def dTuple : DV → Option DV
  | .dat (.tuple ds) => some (.dat (.tuple ds))
  | .dat (.list ds) => some (.dat (.tuple ds))
  | _ => none
theorem pd_totuple (hm : X.mg "tuple" = none) (ha : PE X a (tE E m1 f1)) (hg : Gl X "tuple" := by rfl) (he : starEach [a] X.env = (false, eval a X.env) :: starEach [] X.env := by rfl) : PE X (.Call (.Name "tuple" p) [a] [] pos) (tE E .val (e1 dTuple f1)) := by
  refine pd_callTy call_tuple_of (fun S H0 H x dx d Q sh tb hx e q => ?_) hg hm PyProof.Rows.boot_tuple ha (he := he)
  unfold dTuple at e
  split at e
  · cases e
    obtain ⟨p, vs, rfl, h1, h2⟩ := rd_tup sh hx
    exact ⟨p, vs, rfl, .inr ⟨SqT.of h1, q _ S H (Grow.one sh tb) (rd_tupD hx)⟩⟩
  · cases e
    obtain ⟨p, vs, rfl, h1, h2⟩ := rd_list sh hx
    refine ⟨p, vs, rfl, .inl ⟨SqL.of h1, fun l n => ?_⟩⟩
    obtain ⟨g, z⟩ := dq_lay_tup (T := E.T) sh tb n h2
    exact q _ _ _ g z
  · cases e
def dList : DV → Option DV
  | .dat (.tuple ds) => some (.dat (.list ds))
  | .dat (.list ds) => some (.dat (.list ds))
  | _ => none
theorem pd_tolist (hm : X.mg "list" = none) (ha : PE X a (tE E m1 f1)) (hg : Gl X "list" := by rfl) (he : starEach [a] X.env = (false, eval a X.env) :: starEach [] X.env := by rfl) : PE X (.Call (.Name "list" p) [a] [] pos) (tE E .own (e1 dList f1)) := by
  refine pd_callTy call_list_of (fun S H0 H x dx d Q sh tb hx e q => ?_) hg hm PyProof.Rows.boot_list ha (he := he)
  unfold dList at e
  split at e
  · cases e
    obtain ⟨p, vs, rfl, h1, h2⟩ := rd_tup sh hx
    refine ⟨p, vs, rfl, .inr (SqT.of h1), fun l n => ?_⟩
    obtain ⟨g, z⟩ := own_lst (E := E) sh tb n h2
    exact q _ _ _ g z
  · cases e
    obtain ⟨p, vs, rfl, h1, h2⟩ := rd_list sh hx
    refine ⟨p, vs, rfl, .inl (SqL.of h1), fun l n => ?_⟩
    obtain ⟨g, z⟩ := own_lst (E := E) sh tb n h2
    exact q _ _ _ g z
  · cases e

/-! sum, max, sorted of lists -/
def intsOf : List PyData → Option (List Int)
  | [] => some []
  | .int i :: r => (intsOf r).map (i :: ·)
  | _ :: _ => none
theorem intsOf_ok {S : Hp} : ∀ {ds : List PyData} {vs : List V} {ns : List Int}, DqAll S vs ds → intsOf ds = some ns → vs = ns.map V.int
  | [], _, _, h, e => by cases h; cases e; rfl
  | d :: ds, _, _, h, e => by
    cases h with
    | cons h1 h2 =>
      cases d with
      | int i =>
        obtain ⟨r, e1, rfl⟩ := Option.map_eq_some_iff.mp (show (intsOf ds).map (i :: ·) = some _ from e)
        cases h1
        rw [intsOf_ok h2 e1, List.map_cons]
      | _ => cases e
theorem intsOf_eq : ∀ {ds : List PyData} {ns : List Int}, intsOf ds = some ns → ds = ns.map PyData.int
  | [], _, e => by cases e; rfl
  | d :: ds, _, e => by
    cases d with
    | int i =>
      obtain ⟨r, e1, rfl⟩ := Option.map_eq_some_iff.mp (show (intsOf ds).map (i :: ·) = some _ from e)
      rw [intsOf_eq e1, List.map_cons]
    | _ => cases e
def dSum : DV → Option DV
  | .dat (.list ds) => (intsOf ds).map fun ns => .dat (.int ns.sum)
  | _ => none
theorem pd_sum (hc : X.calm = true) (hm : X.mg "sum" = none) (ha : PE X a (tE E m1 f1)) (hg : Gl X "sum" := by rfl) (he : starEach [a] X.env = (false, eval a X.env) :: starEach [] X.env := by rfl) : PE X (.Call (.Name "sum" p) [a] [] pos) (tE E .val (e1 dSum f1)) := by
  refine pd_callB (cr_sum hc) (fun S H0 H x dx d Q sh tb hx e q => ?_) hg hm PyProof.Rows.boot_sum ha (he := he)
  unfold dSum at e
  split at e
  · obtain ⟨ns, e1, rfl⟩ := Option.map_eq_some_iff.mp e
    obtain ⟨p, vs, rfl, h1, h2⟩ := rd_list sh hx
    have := intsOf_ok h2 e1
    subst this
    exact ⟨p, ns, rfl, SqL.of h1, q _ S H (Grow.one sh tb) (Dq.int _)⟩
  · cases e
theorem paired_vals : ∀ {vs : List V} {us : List Value}, Vals vs us → ∀ {i : Nat} {u : Value}, us[i]? = some u → ∃ v, vs[i]? = some v ∧ RelV v u
  | _, _, .nil, i, u, e => by simp at e
  | _, _, .cons r t, 0, u, e => by simp at e; subst e; exact ⟨_, rfl, r⟩
  | _, _, .cons r t, i + 1, u, e => by
    obtain ⟨v, h1, h2⟩ := paired_vals t (i := i) (by simpa using e)
    exact ⟨v, by simpa using h1, h2⟩
theorem DqAll.atv {S : Hp} : ∀ {ds : List PyData} {vs : List V} {i : Nat} {v : V}, DqAll S vs ds → vs[i]? = some v → ∃ d, ds[i]? = some d ∧ Dq S v d
  | [], _, i, v, h, e => by cases h; simp at e
  | d :: ds, _, 0, v, h, e => by
    cases h with
    | cons h1 h2 => simp at e; subst e; exact ⟨_, rfl, h1⟩
  | d :: ds, _, i + 1, v, h, e => by
    cases h with
    | cons h1 h2 =>
      obtain ⟨d, e1, e2⟩ := DqAll.atv (i := i) h2 (by simpa using e)
      exact ⟨d, by simpa using e1, e2⟩
theorem maxD_mem (x : PyData) (xs : List PyData) : PySem.W.maxD x xs ∈ x :: xs := by
  unfold PySem.W.maxD
  induction xs generalizing x with
  | nil => exact List.mem_cons_self
  | cons y r ih =>
    rw [List.foldl_cons]
    have := ih (if PySem.W.dataLt x y = true then y else x)
    rcases List.mem_cons.mp this with e | h
    · rw [e]
      split
      · exact List.mem_cons_of_mem _ List.mem_cons_self
      · exact List.mem_cons_self
    · exact List.mem_cons_of_mem _ (List.mem_cons_of_mem _ h)
def allAlike (ds : List PyData) : Bool := ds.all fun x => ds.all fun y => PySem.W.alike x y
def noNone (ds : List PyData) : Bool := ds.all fun x => match x with | .none => false | _ => true
def maxOk (ds : List PyData) : Bool := (intsOf ds).isSome || (allAlike ds && (noNone ds && decide (PyData.depthAll ds ≤ 40)))
theorem depthAll_ints : ∀ ns : List Int, PyData.depthAll (ns.map PyData.int) = 0
  | [] => by rw [List.map_nil, PyData.depthAll]
  | n :: r => by rw [List.map_cons, PyData.depthAll, depthAll_ints r, PyData.depth]; rfl
theorem maxOk_of {ds : List PyData} (h : maxOk ds = true) : PySem.W.AlikeAll ds ∧ PyData.depthAll ds ≤ 40 := by
  unfold maxOk at h
  rw [Bool.or_eq_true] at h
  rcases h with h | h
  · obtain ⟨ns, e⟩ := Option.isSome_iff_exists.mp h
    rw [intsOf_eq e]
    refine ⟨⟨fun x hx y hy => ?_, fun x hx => ?_⟩, by rw [depthAll_ints]; omega⟩
    · obtain ⟨i, _, rfl⟩ := List.mem_map.mp hx
      obtain ⟨j, _, rfl⟩ := List.mem_map.mp hy
      simp [PySem.W.alike]
    · obtain ⟨i, _, rfl⟩ := List.mem_map.mp hx
      intro z; cases z
  · simp only [Bool.and_eq_true, decide_eq_true_eq] at h
    obtain ⟨h1, h2, h3⟩ := h
    refine ⟨⟨fun x hx y hy => ?_, fun x hx e => ?_⟩, h3⟩
    · exact List.all_eq_true.mp (List.all_eq_true.mp h1 x hx) y hy
    · have := List.all_eq_true.mp h2 x hx
      subst e
      exact absurd this (by decide)
def dMax : DV → Option DV
  | .dat (.list (d :: ds)) => if maxOk (d :: ds) = true then some (.dat (PySem.W.maxD d ds)) else none
  | .dat (.tuple (d :: ds)) => if maxOk (d :: ds) = true then some (.dat (PySem.W.maxD d ds)) else none
  | _ => none
def rMaxD (K : PySem.W.Frag) : List V → Hp → VK → Prop := fun ws H Q => ∃ (q : Addr) (vs : List V) (d : PyData) (ds : List PyData), ws = [.ref q] ∧ (H q = some (.lst vs) ∨ H q = some (.tup vs)) ∧ DqAll H vs (d :: ds) ∧ maxOk (d :: ds) = true ∧ ∀ (i : Nat) (v : V), vs[i]? = some v → (d :: ds)[i]? = some (PySem.W.maxD d ds) → Q v H
theorem cr_maxD (hr : Room k X.A) : CallR X (.builtin "max") (rMaxD X.K) := by
  intro pins s σ H ws us Q I r h
  obtain ⟨q, vs, d, ds, rfl, hH, hd, hk, hq⟩ := h
  rw [Vals.ref1 r]
  obtain ⟨ha, hz⟩ := maxOk_of hk
  have hu : X.A.units + 1 + PyData.depthAll (d :: ds) < cLine := by have := hr.un; omega
  have fin : ∀ (its : List Value), Vals vs its → ∀ (as : List Addr), ∀ (i : Nat) (v : Value) (h' : Heap) (tk : Nat) (bs : List Addr), its[i]? = some v → Reads h' v (PySem.W.maxD d ds) bs → (∀ b o, s.heap.get? b = some o → h'.get? b = some o) → EP X pins σ Q v { s with heap := h', toks := tk } :=
    fun its rv as i v h' tk bs e rd kp => by
      obtain ⟨y, hy, ry⟩ := paired_vals rv e
      obtain ⟨c, hc, dc⟩ := hd.atv hy
      obtain ⟨cs, rc⟩ := Dp.reads I c y v (Dq.dp _ _ dc) ry
      have e2 : c = PySem.W.maxD d ds := PySem.W.alike_unique c _ v cs bs (ha.1 c (List.mem_of_getElem? hc) _ (maxD_mem d ds)) (PyProof.Rows.Reads.keeps kp rc) rd
      rw [e2] at hc
      exact ⟨y, H, I.kept kp, ry, hq i y hy hc⟩
  rcases hH with hH | hH
  · obtain ⟨its, rv, hl, _⟩ := I.list (SqL.of hH)
    obtain ⟨as, ra⟩ := Dp.readsAll I _ _ its (DqAll.dp _ _ hd) rv
    exact PySem.W.max_list_data hr.hd hl.isList (by simpa using ra) ha hu fun i v h' tk bs e rd kp => fin its rv as i v h' tk bs (by simpa using e) rd kp
  · obtain ⟨its, rv, hl, _⟩ := I.tuple (SqT.of hH)
    obtain ⟨as, ra⟩ := Dp.readsAll I _ _ its (DqAll.dp _ _ hd) rv
    exact PySem.W.max_tuple_data hr.hd (show s.heap.IsTuple q its.toArray from hl) (by simpa using ra) ha hu fun i v h' tk bs e rd kp => fin its rv as i v h' tk bs (by simpa using e) rd kp
theorem pd_max (hr : Room k X.A) (hm : X.mg "max" = none) (ha : PE X a (tE E m1 f1)) (hg : Gl X "max" := by rfl) (he : starEach [a] X.env = (false, eval a X.env) :: starEach [] X.env := by rfl) : PE X (.Call (.Name "max" p) [a] [] pos) (tE E .val (e1 dMax f1)) := by
  refine pd_callB (cr_maxD hr) (fun S H0 H x dx d Q sh tb hx e q => ?_) hg hm PyProof.Rows.boot_max ha (he := he)
  have fin : ∀ {vs : List V} {c : PyData} {ds : List PyData}, DqAll S vs (c :: ds) → d = .dat (PySem.W.maxD c ds) → ∀ (i : Nat) (v : V), vs[i]? = some v → (c :: ds)[i]? = some (PySem.W.maxD c ds) → Q v H := fun h ed i v e1 e2 => by
    obtain ⟨d', h1, h2⟩ := h.atv e1
    rw [e2] at h1
    cases h1
    exact q v S H (Grow.one sh tb) (by rw [ed]; exact h2)
  unfold dMax at e
  split at e
  · split at e
    · cases e
      obtain ⟨p, vs, rfl, h1, h2⟩ := rd_list sh hx
      exact ⟨p, vs, _, _, rfl, .inl h1, DqAll.sub sh _ _ h2, by assumption, fin h2 rfl⟩
    · cases e
  · split at e
    · cases e
      obtain ⟨p, vs, rfl, h1, h2⟩ := rd_tup sh hx
      exact ⟨p, vs, _, _, rfl, .inr h1, DqAll.sub sh _ _ h2, by assumption, fin h2 rfl⟩
    · cases e
  · cases e
end
end FD
end

section
set_option Elab.async false
set_option linter.all false
set_option maxRecDepth 100000
set_option maxHeartbeats 4000000
/-! FD7: sorted, max of two, index, isinstance, the number of a set's members, list(range), list(dict). -/
namespace FD
open PySem PySem.Spec PyProof.Rows L2
section
variable {X : Cx} {E : Fx} {m m1 m2 : M} {f f1 f2 f3 : DE → Option DV} {a b c : Expr} {pos p : Pos} {T : List Addr} {k : Nat} {x : Str} {id : String}

/-! ### sorted -/
def insI (i : Int) : List Int → List Int
  | [] => [i]
  | j :: r => if i ≤ j then i :: j :: r else j :: insI i r
def sortI : List Int → List Int
  | [] => []
  | i :: r => insI i (sortI r)
theorem insI_perm (i : Int) : ∀ l : List Int, (insI i l).Perm (i :: l)
  | [] => .refl _
  | j :: r => by
    unfold insI
    split
    · exact .refl _
    · exact ((insI_perm i r).cons j).trans (.swap i j r)
theorem sortI_perm : ∀ l : List Int, (sortI l).Perm l
  | [] => .refl _
  | i :: r => (insI_perm i (sortI r)).trans ((sortI_perm r).cons i)
theorem insI_sorted (i : Int) : ∀ l : List Int, l.Pairwise (· ≤ ·) → (insI i l).Pairwise (· ≤ ·)
  | [], _ => by unfold insI; exact List.pairwise_singleton _ _
  | j :: r, h => by
    unfold insI
    split
    · rename_i hij
      refine List.Pairwise.cons (fun y hy => ?_) h
      rcases List.mem_cons.mp hy with rfl | hy
      · exact hij
      · exact Int.le_trans hij ((List.pairwise_cons.mp h).1 y hy)
    · rename_i hij
      have h2 := List.pairwise_cons.mp h
      refine List.Pairwise.cons (fun y hy => ?_) (insI_sorted i r h2.2)
      rcases List.mem_cons.mp ((insI_perm i r).mem_iff.mp hy) with rfl | hy
      · omega
      · exact h2.1 y hy
theorem sortI_sorted : ∀ l : List Int, (sortI l).Pairwise (· ≤ ·)
  | [] => .nil
  | i :: r => insI_sorted i _ (sortI_sorted r)
theorem sortI_unique {l l' : List Int} (h : l'.Perm l) (s : l'.Pairwise (· ≤ ·)) : l' = sortI l :=
  List.Perm.eq_of_pairwise (fun a b _ _ h1 h2 => Int.le_antisymm h1 h2) s (sortI_sorted l) (h.trans (sortI_perm l).symm)
def sortOk (ds : List PyData) : Bool := allAlike ds && (ds.all (fun d => match d with | .tuple (_ :: _) => true | _ => false) && decide (PyData.depthAll ds ≤ 40))
theorem depth_all {d : PyData} : ∀ {ds : List PyData}, d ∈ ds → d.depth ≤ PyData.depthAll ds
  | [], h => by cases h
  | c :: ds, h => by
    rw [PyData.depthAll]
    rcases List.mem_cons.mp h with rfl | h
    · exact Nat.le_max_left _ _
    · exact Nat.le_trans (depth_all h) (Nat.le_max_right _ _)
def sortD (ds : List PyData) : List PyData := ds.mergeSort (PySem.W.dataLe false fun d => d)
def dSorted : DV → Option DV
  | .dat (.list ds) => match intsOf ds with
    | some ns => some (.dat (.list ((sortI ns).map PyData.int)))
    | none => if sortOk ds = true then some (.dat (.list (sortD ds))) else none
  | _ => none
theorem DqAll.ints {S : Hp} : ∀ ns : List Int, DqAll S (ns.map V.int) (ns.map PyData.int)
  | [] => .nil
  | n :: r => .cons (.int n) (DqAll.ints r)
def rSortedD : List V → Hp → VK → Prop := fun ws H Q => ∃ (S : Hp) (q : Addr) (vs : List V) (ds : List PyData), ws = [.ref q] ∧ Sub S H ∧ H q = some (.lst vs) ∧ DqAll S vs ds ∧ sortOk ds = true ∧
  ∀ (out : List V) (l : Addr), H l = none → DqAll S out (sortD ds) → Q (.ref l) (upd H l (.lst out))
theorem each_of {S : Hp} : ∀ {ds : List PyData} {vs : List V} {us : List Value}, DqAll S vs ds → Vals vs us → PySem.W.EachIs (fun u d => ∃ y, RelV y u ∧ Dq S y d) us ds
  | [], _, _, h, r => by cases h; cases r; exact .nil
  | d :: ds, _, _, h, r => by
    cases h with
    | cons h1 h2 =>
      cases r with
      | cons r1 r2 => exact .cons ⟨_, r1, h1⟩ (each_of h2 r2)
theorem of_each {S : Hp} : ∀ {ds : List PyData} {us : List Value}, PySem.W.EachIs (fun u d => ∃ y, RelV y u ∧ Dq S y d) us ds → ∃ vs, Vals vs us ∧ DqAll S vs ds
  | _, _, .nil => ⟨[], .nil, .nil⟩
  | _, _, .cons h t => by
    obtain ⟨y, r, q⟩ := h
    obtain ⟨vs, r2, q2⟩ := of_each t
    exact ⟨y :: vs, .cons r r2, .cons q q2⟩
theorem each_reads {pins : List (Addr × Obj)} {σ : L2.St} {H : Hp} {s : Shared} (I : Inv X pins σ H s) : ∀ {ds : List PyData} {vs : List V} {us : List Value}, DqAll H vs ds → Vals vs us → PySem.W.EachIs (fun u d => ∃ as, Reads s.heap u d as) us ds
  | [], _, _, h, r => by cases h; cases r; exact .nil
  | d :: ds, _, _, h, r => by
    cases h with
    | cons h1 h2 =>
      cases r with
      | cons r1 r2 => exact .cons (Dp.reads I d _ _ (Dq.dp _ _ h1) r1) (each_reads I h2 r2)
theorem cr_sortedD (hr : Room k X.A) : CallR X (.builtin "sorted") rSortedD := by
  intro pins s σ H ws us Q I r h
  obtain ⟨S, q, vs, ds, rfl, sh, hH, hd, hk, hq⟩ := h
  rw [Vals.ref1 r]
  obtain ⟨its, rv, hl, hz⟩ := I.list (SqL.of hH)
  unfold sortOk at hk
  simp only [Bool.and_eq_true, decide_eq_true_eq] at hk
  obtain ⟨h1, h2, h3⟩ := hk
  have hu := hr.un
  refine PySem.W.sorted_data (bs := ds) (enc := fun d => d) (R := fun u d => ∃ y, RelV y u ∧ Dq S y d) hl.isList (each_of hd rv) (each_reads I (DqAll.sub sh _ _ hd) rv) ?_ ?_ (by rw [← hd.length]; exact hz) (fun b hb => by have := depth_all hb; omega) fun out hlen ho => ?_
  · intro d hd d' hd'
    rw [List.map_id'] at hd hd'
    exact List.all_eq_true.mp (List.all_eq_true.mp h1 d hd) d' hd'
  · refine .inl fun d hd => ?_
    rw [List.map_id'] at hd
    have := List.all_eq_true.mp h2 d hd
    split at this
    · exact ⟨_, _, rfl⟩
    · cases this
  · obtain ⟨ws, r1, r2⟩ := of_each ho
    obtain ⟨ep, he'⟩ := PyProof.Rows.sortedAll_at s.heap its out.toArray
    have hlen' : ws.length ≤ sizeLine := by rw [r1.length, hlen, ← hd.length]; exact hz
    exact ⟨.ref _, upd H (s.heap.objs.size + 1) (.lst ws), I.laid (t' := s.toks) (fun _ _ => PyProof.Rows.sortedAll_old) (Nat.le_succ _) ⟨hlen', out, ep, r1, he'⟩, rfl, hq _ _ (I.hok.fresh (Nat.le_succ _)) r2⟩
theorem pd_sorted (hr : Room k X.A) (hm : X.mg "sorted" = none) (ha : PE X a (tE E m1 f1)) (hg : Gl X "sorted" := by rfl) (he : starEach [a] X.env = (false, eval a X.env) :: starEach [] X.env := by rfl) : PE X (.Call (.Name "sorted" p) [a] [] pos) (tE E .own (e1 dSorted f1)) := by
  refine pd_callB (r := fun ws H Q => rSortedI X.K ws H Q ∨ rSortedD ws H Q) (fun pins s σ H ws us Q I r h => h.elim (fun h => cr_sortedI pins s σ H ws us Q I r h) fun h => cr_sortedD hr pins s σ H ws us Q I r h) (fun S H0 H x dx d Q sh tb hx e q => ?_) hg hm PyProof.Rows.boot_sorted ha (he := he)
  unfold dSorted at e
  split at e
  · obtain ⟨p, vs, rfl, h1, h2⟩ := rd_list sh hx
    split at e
    · rename_i ns hn
      cases e
      have := intsOf_ok h2 hn
      subst this
      refine .inl ⟨p, ns, rfl, SqL.of h1, fun ns' l hp hs n => ?_⟩
      have := sortI_unique hp hs
      subst this
      obtain ⟨g, z⟩ := own_lst (E := E) sh tb n (DqAll.ints (sortI ns))
      exact q _ _ _ g z
    · split at e
      · cases e
        refine .inr ⟨S, p, vs, _, rfl, sh, h1, h2, by assumption, fun out l n ho => ?_⟩
        obtain ⟨g, z⟩ := own_lst (E := E) sh tb n ho
        exact q _ _ _ g z
      · cases e
  · cases e

/-! ### max of two -/
def dMax2 : DV → DV → Option DV
  | .dat x, .dat y => if maxOk [x, y] = true then some (.dat (PySem.W.maxD x [y])) else none
  | _, _ => none
theorem max2_data {w : World} {prog : Program} {A : Around} {Ex : Value → Shared → Prop} {s : Shared} {u v : Value} {x y : PyData} {as : List Addr} {Q : Value → Shared → Prop} (hh : A.handled = none) (hr : ReadsAll s.heap [u, v] [x, y] as) (ha : PySem.W.AlikeAll [x, y]) (hu : A.units + 1 + PyData.depthAll [x, y] < cLine)
    (h : ∀ (z : Value) h' tk bs, (z = u ∨ z = v) → Reads h' z (PySem.W.maxD x [y]) bs → (∀ b o, s.heap.get? b = some o → h'.get? b = some o) → Q z { s with heap := h', toks := tk }) :
    wpAny (model prog w) A (call (.builtin "max") [u, v]) Q Ex s := by
  have hn : (toString "max" ++ toString ".loop" : String) = "max.loop" := by decide
  refine call_function_tree F.kind_max F.plain_max F.entry_max (F.args_max2 _ _) ?_
  refine wpAny_bind (m := Builtin.Builtins.bindParams "max" ["key", "default"] 0 ⟨[], []⟩) (wpAny_of_eq (show Builtin.Builtins.bindParams "max" ["key", "default"] 0 ⟨[], []⟩ = pure [none, none] from rfl) ?_)
  show wpAny _ A.in1 (newTuple [u, v] >>= _) _ _ s
  refine wpAny_bind (wpAny_newObj_type ?_)
  have kp : ∀ b o, s.heap.get? b = some o → (s.heap.push { cls := .type "tuple", data := .seq #[u, v] }).get? b = some o := fun b o e => Heap.get?_push_of_some _ e
  have hT : (s.heap.push { cls := .type "tuple", data := .seq #[u, v] }).IsTuple s.heap.objs.size #[u, v] := ⟨_, Heap.get?_push_size _ rfl, rfl, 0, rfl⟩
  have hr2 : ReadsAll (s.heap.push { cls := .type "tuple", data := .seq #[u, v] }) (#[u, v] : Array Value).toList [x, y] as := PyProof.Rows.ReadsAll.keeps kp hr
  refine wpAny_bind (PySem.W.iter_tupleW (A := A.in1) hh hT fun s₂ e W st hfp hw hk => ?_)
  refine wpAny_bind (wpAny_newObj_type ?_)
  rw [hn]
  have hcmp := PySem.W.cmpIn_gt (prog := prog) (w := w) (A := A.in1) (s := { s with heap := s.heap.push { cls := .type "tuple", data := .seq #[u, v] } }) hr2 ha (by show A.units + 1 + _ < _; exact hu)
  refine wpAny_pure ⟨plainId_quiet F.plain_max_loop _, codeAny_max_loop_firstH W (s.heap.push { cls := .type "tuple", data := .seq #[u, v] }) hw _ hcmp s₂.heap.objs.size (fun z => Nat.lt_irrefl _ (hfp _ z)) (fresh_in hk) [] (Nat.zero_lt_succ 1) (fun b o e => Heap.get?_push_of_some _ (hk b o e))
    (W.frame 0 s₂ _ s₂.toks st (Nat.le_refl _) fun b _ o e => Heap.get?_push_of_some _ e) (Heap.get?_push_size _ rfl) fun z s' hP m => ?_⟩
  have m2 := Moved.drop_new (tk := s₂.toks) m (Nat.le_refl _)
  obtain ⟨h', tk, rfl, hk'⟩ := PySem.W.moved_old e rfl m2
  obtain ⟨bs, r, _, _, _⟩ := PySem.W.readsAll_atA hr2 _ z hP
  have e2 := (PySem.W.argBest_fold (fun a b => PySem.W.dataLt b a) PyData.none x [y] 1 (Nat.le_refl _)).2
  have hz : z = u ∨ z = v := by
    have := Array.mem_of_getElem? hP
    simpa using this
  refine h z h' tk bs hz ?_ (fun b o e => hk' b o (kp b o e))
  exact PyProof.Rows.Reads.keeps hk' (by unfold PySem.W.maxD; rw [show List.foldl (fun a y => if PySem.W.dataLt a y = true then y else a) x [y] = ([y].take 1).foldl (fun a z => if (fun a b => PySem.W.dataLt b a) z a then z else a) x from rfl, ← e2]; exact r)
def rMax2D : List V → Hp → VK → Prop := fun ws H Q => ∃ (u v : V) (x y : PyData), ws = [u, v] ∧ Dq H u x ∧ Dq H v y ∧ maxOk [x, y] = true ∧ (x = PySem.W.maxD x [y] → Q u H) ∧ (y = PySem.W.maxD x [y] → Q v H)
theorem cr_max2D (hr : Room k X.A) : CallR X (.builtin "max") rMax2D := by
  intro pins s σ H ws us Q I r h
  obtain ⟨u, v, x, y, rfl, hu, hv, hk, q1, q2⟩ := h
  obtain ⟨u', v', rfl, ru, rv⟩ := vals2 r
  obtain ⟨ha, hz⟩ := maxOk_of hk
  obtain ⟨as, ra⟩ := Dp.reads I x u u' (Dq.dp _ _ hu) ru
  obtain ⟨bs, rb⟩ := Dp.reads I y v v' (Dq.dp _ _ hv) rv
  have hun := hr.un
  have mem := maxD_mem x [y]
  refine max2_data hr.hd (.cons ra (.cons rb .nil)) ha (by omega) fun z h' tk cs hz rd kp => ?_
  rcases hz with rfl | rfl
  · have e : x = PySem.W.maxD x [y] := PySem.W.alike_unique x _ _ as cs (ha.1 x List.mem_cons_self _ mem) (PyProof.Rows.Reads.keeps kp ra) rd
    exact ⟨u, H, I.kept kp, ru, q1 e⟩
  · have e : y = PySem.W.maxD x [y] := PySem.W.alike_unique y _ _ bs cs (ha.1 y (List.mem_cons_of_mem _ List.mem_cons_self) _ mem) (PyProof.Rows.Reads.keeps kp rb) rd
    exact ⟨v, H, I.kept kp, rv, q2 e⟩
theorem pd_max2 (hr : Room k X.A) (hm : X.mg "max" = none) (ha : PE X a (tE E .val f1)) (hb : PE X b (tE E .val f2)) (hg : Gl X "max" := by rfl) (he : starEach [a, b] X.env = (false, eval a X.env) :: starEach [b] X.env := by rfl) (he2 : starEach [b] X.env = (false, eval b X.env) :: starEach [] X.env := by rfl)
    (hpl : (backTo pos (starEach [b] X.env)).any (·.1) = false := by rfl) : PE X (.Call (.Name "max" p) [a, b] [] pos) (tE E .val (e2 dMax2 f1 f2)) := by
  refine (pe_callB (cr_max2D hr) hg hm PyProof.Rows.boot_max (pa_cons ha (pa_cons hb pa_nil he2) he) (he := he) (hpl := hpl)).imp fun σ H Q ⟨S, env, d, rel, e, q⟩ => ?_
  unfold e2 at e
  obtain ⟨dx, ex, e⟩ := Option.bind_eq_some_iff.mp e
  obtain ⟨dy, ey, e⟩ := Option.bind_eq_some_iff.mp e
  refine ⟨S, env, dx, rel, ex, fun u S1 H1 g1 hu => ⟨S1, env, dy, rel.grow g1, ey, fun v S2 H2 g2 hv => ?_⟩⟩
  have r2 := (rel.grow g1).grow g2
  have hu2 : Dn E S2 u dx := Dn.sub g2.ss hu
  unfold dMax2 at e
  split at e
  · split at e
    · cases e
      exact ⟨u, v, _, _, rfl, Dq.sub r2.sh _ _ hu2, Dq.sub r2.sh _ _ hv, by assumption, fun e => q u S2 H2 (g1.trans g2) (by rw [← e]; exact hu2), fun e => q v S2 H2 (g1.trans g2) (by rw [← e]; exact hv)⟩
    · cases e
  · cases e

/-! ### index -/
def dIndex : DV → DV → Option DV
  | .dat (.list ds), .dat d => if SeqAt.shaped (.list ds) = true ∧ SeqAt.shaped d = true then (ds.findIdx? fun z => PyData.eqv z d).map fun (j : Nat) => .dat (.int j) else none
  | _, _ => none
theorem pd_index {apos cpos : Pos} (hr : Room k X.A) (ha : PE X a (tE E m1 f1)) (hb : PE X b (tE E .val f2)) (hbase : attributeBase a "index" X.env (eval a X.env) = eval a X.env := by rfl)
    (hfew : ((backTo cpos (starEach [b] X.env)).all (fun x => !x.1) && (backToKw cpos (keywordEach [] X.env)).all (fun x => x.1.isSome)
      && decide (([b] : List Expr).length + ([] : List Keyword).length + (if ([] : List Keyword).isEmpty then 0 else 1) < 30)) = true := by rfl)
    (hline : (apos.endLine == cpos.line) = true := by rfl) (hs : starEach [b] X.env = (false, eval b X.env) :: starEach [] X.env := by rfl) (hplain : (backTo cpos (starEach [] X.env)).any (·.1) = false := by rfl) :
    PE X (.Call (.Attribute a "index" apos) [b] [] cpos) (tE E .val (e2 dIndex f1 f2)) := by
  refine (pe_bm PySem.F.plainAttrs_list PySem.F.slot_list_index PySem.F.type_list_index (mt_indexD (by have := hr.un; omega)) ha (pa_cons hb pa_nil hs) hbase hfew hline hs hplain).imp fun σ H Q ⟨S, env, d, rel, e, q⟩ => ?_
  unfold e2 at e
  obtain ⟨dx, ex, e⟩ := Option.bind_eq_some_iff.mp e
  obtain ⟨dy, ey, e⟩ := Option.bind_eq_some_iff.mp e
  obtain ⟨ds, dd, rfl, rfl, h1, h2, j, hj, rfl⟩ : ∃ ds dd, dx = .dat (.list ds) ∧ dy = .dat dd ∧ SeqAt.shaped (.list ds) = true ∧ SeqAt.shaped dd = true ∧ ∃ j, (ds.findIdx? fun z => PyData.eqv z dd) = some j ∧ d = .dat (.int (j : Nat)) := by
    unfold dIndex at e
    split at e
    · split at e
      · rename_i hc
        obtain ⟨j, e1, rfl⟩ := Option.map_eq_some_iff.mp e
        exact ⟨_, _, rfl, rfl, hc.1, hc.2, j, e1, rfl⟩
      · cases e
    · cases e
  refine ⟨S, env, _, rel, ex, fun u S1 H1 g1 hu => ?_⟩
  obtain ⟨pp, vs, rfl, hH, hd⟩ := rd_list g1.sh hu
  refine ⟨.inl ⟨rfl, _, SqL.of hH⟩, S1, env, _, rel.grow g1, ey, fun v S2 H2 g2 hv => ?_⟩
  have r2 := (rel.grow g1).grow g2
  have hu2 := hu.grow (rel.grow g1).tabs g2
  obtain ⟨hlt, hj1, hj2⟩ := List.findIdx?_eq_some_iff_getElem.mp hj
  refine ⟨pp, v, dd, ds, j, ds[j], rfl, rfl, dp_of r2.sh hu2, Dq.dp _ _ (Dq.sub r2.sh _ _ hv), h1, h2, List.getElem?_eq_getElem hlt, hj1, fun n z hn hz => ?_, q _ S2 H2 (g1.trans g2) (Dq.int _)⟩
  have hn' : n < ds.length := Nat.lt_trans hn hlt
  rw [List.getElem?_eq_getElem hn'] at hz
  cases hz
  have := hj2 n hn
  simpa using this
end
end FD
end

section
set_option Elab.async false
set_option linter.all false
set_option maxRecDepth 100000
set_option maxHeartbeats 4000000
/-! FD8: what is walked: ranges, lists, tuples, dicts by their keys, enumerate of a tuple or list. -/
namespace FD
open PySem PySem.Spec PyProof.Rows L2
section
variable {X : Cx} {E : Fx} {m m1 m2 : M} {f f1 f2 f3 : DE → Option DV} {a b c tg : Expr} {pos p : Pos} {T : List Addr} {k : Nat} {x : Str} {id : String}

/-- the iterator J gives the data ds, one by one -/
def IterD (T : List Addr) (S : Hp) (J : It) (ds : List PyData) : Prop := ∀ (S2 H2 : Hp), Sub S S2 → Sub S2 H2 → (∀ P ∈ T, GxR.TabG H2 P ∧ S2 P = none) → ∀ i : Nat,
  (∀ d, ds[i]? = some d → J.go i H2 ∧ ∀ x H3, J.yld i H2 x H3 → ∃ S3, Grow T S2 H2 S3 H3 ∧ Dq S3 x d) ∧ (ds.length ≤ i → J.stop i H2)
def tI (E : Fx) (f : DE → Option (List PyData)) : TI := fun σ H R => ∃ S env ds, RelE E env σ S H ∧ f env = some ds ∧ ∀ J S' H', Grow E.T S H S' H' → IterD E.T S' J ds → R J H'
theorem _root_.L2.PI.imp {e : Expr} {t t' : TI} (h : PI X tg e t) (z : ∀ σ H R, t' σ H R → t σ H R) : PI X tg e t' := ⟨fun pins s σ H R I q => h.run pins s σ H R I (z σ H R q)⟩
theorem iter_list {K : PySem.W.Frag} {S : Hp} {q : Addr} {vs : List V} {ds : List PyData} (h : S q = some (.lst vs)) (hd : DqAll S vs ds) : IterD T S (Itl K q) ds := by
  intro S2 H2 s1 s2 tb i
  have hq : SqL K H2 q vs := SqL.of (s2 _ _ (s1 _ _ h))
  refine ⟨fun d e => ?_, fun hl => ⟨vs, hq, by rw [hd.length]; exact hl⟩⟩
  obtain ⟨v, e1, e2⟩ := hd.get e
  refine ⟨⟨vs, v, hq, e1⟩, fun x H3 y => ?_⟩
  obtain ⟨rfl, y⟩ := y
  have := y vs hq
  rw [e1] at this
  cases this
  exact ⟨S2, Grow.one s2 tb, Dq.sub s1 _ _ e2⟩
theorem iter_tup {K : PySem.W.Frag} {S : Hp} {q : Addr} {vs : List V} {ds : List PyData} (h : S q = some (.tup vs)) (hd : DqAll S vs ds) : IterD T S (Itt K q) ds := by
  intro S2 H2 s1 s2 tb i
  have hq : SqT K H2 q vs := SqT.of (s2 _ _ (s1 _ _ h))
  refine ⟨fun d e => ?_, fun hl => ⟨vs, hq, by rw [hd.length]; exact hl⟩⟩
  obtain ⟨v, e1, e2⟩ := hd.get e
  refine ⟨⟨vs, v, hq, e1⟩, fun x H3 y => ?_⟩
  obtain ⟨rfl, y⟩ := y
  have := y vs hq
  rw [e1] at this
  cases this
  exact ⟨S2, Grow.one s2 tb, Dq.sub s1 _ _ e2⟩
def iSeq (f : DE → Option DV) : DE → Option (List PyData) := fun env => (f env).bind items
theorem id_seq (ha : PE X a (tE E .val f)) : PI X tg a (tI E (iSeq f)) := by
  refine ⟨fun pins s σ H R I ⟨S, env, ds, rel, e, q⟩ => ?_⟩
  unfold iSeq at e
  obtain ⟨dx, ex, e⟩ := Option.bind_eq_some_iff.mp e
  unfold items at e
  split at e
  · cases e
    refine (pi_tup ha).run pins s σ H R I ⟨S, env, _, rel, ex, fun v S' H' g hv => ?_⟩
    cases hv with
    | tup h1 h2 => exact ⟨_, rfl, ⟨_, SqT.of (g.sh _ _ h1)⟩, q _ S' H' g (iter_tup h1 h2)⟩
  · cases e
    refine (pi_list ha).run pins s σ H R I ⟨S, env, _, rel, ex, fun v S' H' g hv => ?_⟩
    cases hv with
    | lst h1 h2 => exact ⟨_, rfl, ⟨_, SqL.of (g.sh _ _ h1)⟩, q _ S' H' g (iter_list h1 h2)⟩
  · cases e
/-! range -/
def rngD (n : Nat) : List PyData := (List.range n).map fun i => PyData.int (i : Nat)
def iRange (f : DE → Option DV) : DE → Option (List PyData) := fun env => (f env).bind fun x => match x with
  | .dat (.int n) => if -(2 ^ 62) ≤ n ∧ n < 2 ^ 62 then some (rngD n.toNat) else none
  | _ => none
theorem iter_rng {S : Hp} (n : Nat) : IterD T S (Itr 0 n) (rngD n) := by
  intro S2 H2 s1 s2 tb i
  refine ⟨fun d e => ?_, fun hl => ?_⟩
  · unfold rngD at e
    rw [List.getElem?_map] at e
    obtain ⟨j, h1, rfl⟩ := Option.map_eq_some_iff.mp e
    obtain ⟨hj, h2⟩ := List.getElem?_eq_some_iff.mp h1
    rw [List.getElem_range] at h2
    subst h2
    rw [List.length_range] at hj
    refine ⟨hj, fun x H3 y => ?_⟩
    obtain ⟨rfl, rfl⟩ := y
    rw [Int.zero_add]
    exact ⟨S2, Grow.one s2 tb, Dq.int _⟩
  · unfold rngD at hl
    rw [List.length_map, List.length_range] at hl
    exact hl
theorem id_range (hm : X.mg "range" = none) (ha : PE X a (tE E .val f)) (hg : Gl X "range" := by rfl) (he : starEach [a] X.env = (false, eval a X.env) :: starEach [] X.env := by rfl) (hs : starEach [a] X.env = [(false, eval a X.env)] := by rfl) : PI X tg (.Call (.Name "range" p) [a] [] pos) (tI E (iRange f)) :=
  (pi_range1 hg hm (pa_cons ha pa_nil he) hs).imp fun σ H R ⟨S, env, ds, rel, e, q⟩ => by
    unfold iRange at e
    obtain ⟨dx, ex, e⟩ := Option.bind_eq_some_iff.mp e
    refine ⟨S, env, _, rel, ex, fun v S' H' g hv => ?_⟩
    split at e
    · split at e
      · rename_i hb
        cases e
        cases hv
        exact ⟨_, rfl, hb.1, hb.2, q _ S' H' g (iter_rng _)⟩
      · cases e
    · cases e
/-! the keys of a dict -/
def Itkd (P : Program) (w : World) (d : Addr) (ob : Obj) (xs : List (NestedKey × Addr × Value)) : It :=
  ⟨fun i H => H d = some (dctO P w d ob xs) ∧ i < xs.length, fun i H v H' => H' = H ∧ ∃ x, xs[i]? = some x ∧ v = .ref x.2.1, fun i H => H d = some (dctO P w d ob xs) ∧ xs.length ≤ i⟩
theorem turn_kd {P : Program} {w : World} {K : PySem.W.Frag} (d it : Addr) (ob : Obj) (xs : List (NestedKey × Addr × Value)) (es : Array DictEntry) (ep : Nat) (hes : ob.data = .dict es ep) : Turn P w K tg (Itkd P w d ob xs) [it] it (fun i h => h.IsKeyIter it d i es.size ep) where
  mem := by simp
  obj := fun i h st b hb => by
    have e : b = it := by simpa using hb
    subst e
    obtain ⟨o, e, c, d⟩ := st
    exact ⟨o, e, fun v z => by rw [d] at z; cases z⟩
  keep := fun i h h' st k => st.at fun o e => k it (by simp) o e
  item := by
    intro X hP hw hK hc i pins s σ H Ex I hf st hg
    subst hP hw hK
    obtain ⟨hH, hlt⟩ := hg
    have hx := List.getElem?_eq_getElem hlt
    obtain ⟨⟨h1, h2, es', ep', h3, h4, h5⟩, _⟩ := I.hok d _ hH
    rw [hes] at h3
    cases h3
    have en := entry_at h4 i
    rw [hx] at en
    obtain ⟨f0, f1, f2, f3, f4, f5⟩ := hf it (by simp)
    refine next_key_item st h1 hes rfl en fun h' st' sb => ?_
    have I1 : Inv X pins σ H { s with heap := h' } := I.turned (t' := s.toks) (fun b o hb e => (sb.2 b hb).trans e) f0 f1 f3 f4 f5
    obtain ⟨o, e, c, dd⟩ := id st'
    exact ⟨_, rfl, go_of (s := { s with heap := h' }) e c dd (by decide) ⟨.ref xs[i].2.1, H, I1, rfl, ⟨rfl, _, hx, rfl⟩, st', fun b hb => (hf b hb).1⟩⟩
  done := by
    intro X hP hw hK hc i pins s σ H Ex I hf st hg
    subst hP hw hK
    obtain ⟨hH, hx⟩ := hg
    obtain ⟨⟨h1, h2, es', ep', h3, h4, h5⟩, _⟩ := I.hok d _ hH
    rw [hes] at h3
    cases h3
    have hl := size_of_entries h4
    obtain ⟨f0, f1, f2, f3, f4, f5⟩ := hf it (by simp)
    exact next_key_end (I.ok.hd hc) st h1 hes rfl (by omega) fun h' eb => ⟨rfl, I.turned (t' := s.toks) (fun b o hb e => eb b o hb e) f0 f1 f3 f4 f5⟩
  self := fun _ _ _ _ _ st h => wpAny_pyIter_keyiter st h
theorem iter_kd {S : Hp} {d : Addr} {ob : Obj} {xs : List (NestedKey × Addr × Value)} {kvs : List (NestedKey × PyData)} (h : S d = some (dctO E.P E.w d ob xs)) (hp : DPairs S xs kvs) : IterD T S (Itkd E.P E.w d ob xs) (kvs.map fun p => p.1.data) := by
  intro S2 H2 s1 s2 tb i
  have hq := s2 _ _ (s1 _ _ h)
  have key : ∀ (i : Nat) (d : PyData) (x : NestedKey × Addr × Value), (kvs.map fun p => p.1.data)[i]? = some d → xs[i]? = some x → Dq S (.ref x.2.1) d := by
    clear hq h
    induction hp with
    | nil => intro i d x e; simp at e
    | @cons y p xs kvs r t ih =>
      intro i d x e1 e2
      cases i with
      | zero => simp at e1 e2; subst e1 e2; exact r.2.2.1
      | succ i => exact ih i d x (by simpa using e1) (by simpa using e2)
  have hl := hp.length
  refine ⟨fun d e => ?_, fun hn => ⟨hq, by rw [List.length_map] at hn; omega⟩⟩
  have hi : i < xs.length := by
    have := (List.getElem?_eq_some_iff.mp e).1
    rw [List.length_map] at this
    omega
  refine ⟨⟨hq, hi⟩, fun v H3 y => ?_⟩
  obtain ⟨rfl, x, e1, rfl⟩ := y
  exact ⟨S2, Grow.one s2 tb, Dq.sub s1 _ _ (key i d x e e1)⟩
def iKeys (f : DE → Option DV) : DE → Option (List PyData) := fun env => (f env).bind fun x => match x with
  | .dct kvs => some (kvs.map fun p => p.1.data)
  | _ => none
theorem id_keys (ha : PE X a (tE (fx X T) .val f)) : PI X tg a (tI (fx X T) (iKeys f)) := by
  refine ⟨fun pins s σ H R I ⟨S, env, ds, rel, e, q⟩ => ?_⟩
  unfold iKeys at e
  obtain ⟨dx, ex, e⟩ := Option.bind_eq_some_iff.mp e
  refine thn (ha.run pins s σ H (fun v H1 => ∃ S1, Grow T S H S1 H1 ∧ Dn (fx X T) S1 v dx) I ⟨S, env, _, rel, ex, fun v S1 H1 g hv => ⟨S1, g, hv⟩⟩) fun u s1 ⟨x, H1, I1, rx, S1, g1, hx⟩ => ?_
  split at e
  · cases e
    obtain ⟨d, o, rfl, hS, h0, ob, xs, rfl, hp⟩ := hx
    cases rx
    have hH := g1.sh _ _ hS
    obtain ⟨⟨h1, h2, es, ep, h3, h4, h5⟩, _⟩ := I1.hok d _ hH
    refine iter_keys h0 h1 h2 h3 ?_
    refine ⟨s1.heap.objs.size, [s1.heap.objs.size], _, _, H1, rfl, I1.kept (t' := s1.toks) fun b o e => Heap.get?_push_of_some _ e, turn_kd d _ ob xs es ep h3, ⟨_, Heap.get?_push_size _ rfl, rfl, rfl⟩, fun b hb => ?_, q _ S1 H1 g1 (iter_kd hS hp)⟩
    have e : b = s1.heap.objs.size := by simpa using hb
    subst e
    exact I1.fpOk (Nat.le_refl _) (I1.hok.fresh (Nat.le_refl _))
  · cases e

/-! list of a dict -/
def dKeys : DV → Option DV
  | .dct kvs => some (.dat (.list (kvs.map fun p => p.1.data)))
  | _ => none
def rKeysD (X : Cx) : List V → Hp → VK → Prop := fun ws H Q => ∃ (d : Addr) (ob : Obj) (xs : List (NestedKey × Addr × Value)), ws = [.ref d] ∧ (d == sysModules) = false ∧ H d = some (dctO X.prog X.w d ob xs) ∧ xs.length ≤ 100000 ∧ ∀ l, H l = none → Q (.ref l) (upd H l (.lst (xs.map fun x => V.ref x.2.1)))
theorem cr_keysD (hc : X.calm = true) : CallR X (.type "list") (rKeysD X) := by
  intro pins s σ H ws us Q I r h
  obtain ⟨d, ob, xs, rfl, h0, hH, hz, q⟩ := h
  rw [Vals.ref1 r]
  obtain ⟨⟨h1, h2, es, ep, h3, h4, h5⟩, _⟩ := I.hok d _ hH
  have hl : es.size = xs.length := size_of_entries h4
  have hb : xs.length ≤ sizeLine := small hz
  refine PySem.W.kdl_call (kdl_raw h0 h2 h3) (I.ok.hd hc) h1 (by omega) fun h' tk acc c' kp e it => ?_
  have hsz : (xs.map fun x => V.ref x.2.1).length = acc.toList.length := by rw [List.length_map, Array.length_toList]; exact hl.symm.trans it.1.symm
  have rv : Vals (xs.map fun x => V.ref x.2.1) acc.toList := by
    refine vals_of_at hsz fun j y u e1 e2 => ?_
    obtain ⟨en, hen, hv⟩ := it.2 j u (by rw [← Array.getElem?_toList]; exact e2)
    have qe := entry_at h4 j
    rw [List.getElem?_map] at e1
    obtain ⟨x, ex, rfl⟩ := Option.map_eq_some_iff.mp e1
    rw [ex, hen] at qe
    have qe := Option.some.inj qe
    subst qe
    exact hv
  exact ⟨.ref s.heap.objs.size, upd H s.heap.objs.size (.lst (xs.map fun x => V.ref x.2.1)), I.laid (t' := tk) kp (Nat.le_refl _) ⟨by rw [List.length_map]; exact hb, acc.toList, c', rv, by rw [Array.toArray_toList]; exact e⟩, rfl, q _ (I.hok.fresh (Nat.le_refl _))⟩
theorem DPairs.keysAll {S : Hp} {xs : List (NestedKey × Addr × Value)} {kvs : List (NestedKey × PyData)} (h : DPairs S xs kvs) : DqAll S (xs.map fun x => V.ref x.2.1) (kvs.map fun p => p.1.data) := by
  induction h with
  | nil => exact .nil
  | cons r t ih => exact .cons r.2.2.1 ih
theorem pd_listd (hc : X.calm = true) (hm : X.mg "list" = none) (ha : PE X a (tE (fx X T) m1 f1)) (hg : Gl X "list" := by rfl) (he : starEach [a] X.env = (false, eval a X.env) :: starEach [] X.env := by rfl) :
    PE X (.Call (.Name "list" p) [a] [] pos) (tE (fx X T) .own (e1 (fun x => (dKeys x).bind fun y => match y with | .dat (.list ds) => if ds.length ≤ 100000 then some y else none | _ => none) f1)) := by
  refine pd_callTy (cr_keysD hc) (fun S H0 H x dx d Q sh tb hx e q => ?_) hg hm PyProof.Rows.boot_list ha (he := he)
  unfold dKeys at e
  split at e
  · simp only [Option.bind_some] at e
    split at e
    · rename_i hz
      cases e
      obtain ⟨d, ob, xs, rfl, h0, hH, hp⟩ := rd_dct sh hx
      refine ⟨d, ob, xs, rfl, h0, hH, by rw [hp.length]; rw [List.length_map] at hz; exact hz, fun l n => ?_⟩
      obtain ⟨g, z⟩ := own_lst (E := fx X T) sh tb n hp.keysAll
      exact q _ _ _ g z
    · cases e
  · cases e
end
end FD
end

section
set_option Elab.async false
set_option linter.all false
set_option maxRecDepth 100000
set_option maxHeartbeats 4000000
/-! FD9: enumerate, isinstance, the number of a set's members, list(range). -/
namespace FD
open PySem PySem.Spec PyProof.Rows L2
section
variable {X : Cx} {E : Fx} {m m1 m2 : M} {f f1 f2 f3 : DE → Option DV} {a b c tg : Expr} {pos p q1 : Pos} {T : List Addr} {k : Nat} {x : Str} {id : String}

/-! ### isinstance -/
def kindOf : PyData → String
  | .none => "NoneType"
  | .bool _ => "bool"
  | .int _ => "int"
  | .str _ => "str"
  | .list _ => "list"
  | .tuple _ => "tuple"
  | .dict _ => "dict"
def isK (T : String) (d : PyData) : Bool := kindOf d == T || (T == "int" && kindOf d == "bool")
def dIsi (T : String) : DV → Option DV
  | .dat d => some (dB (isK T d))
  | _ => none
def TyName (T : String) : Prop := T = "int" ∨ T = "bool" ∨ T = "tuple" ∨ T = "list" ∨ T = "str"
theorem kit_none (T : String) (h : TyName T) : kitB "NoneType" T = some (isK T .none) := by rcases h with rfl | rfl | rfl | rfl | rfl <;> decide +kernel
theorem kit_bool (T : String) (h : TyName T) (b : Bool) : kitB "bool" T = some (isK T (.bool b)) := by
  have e : isK T (.bool b) = isK T (.bool true) := rfl
  rw [e]
  rcases h with rfl | rfl | rfl | rfl | rfl <;> decide +kernel
theorem kit_int (T : String) (h : TyName T) (i : Int) : kitB "int" T = some (isK T (.int i)) := by
  have e : isK T (.int i) = isK T (.int 0) := rfl
  rw [e]
  rcases h with rfl | rfl | rfl | rfl | rfl <;> decide +kernel
theorem kit_list (T : String) (h : TyName T) (ds : List PyData) : kitB "list" T = some (isK T (.list ds)) := by
  have e : isK T (.list ds) = isK T (.list []) := rfl
  rw [e]
  rcases h with rfl | rfl | rfl | rfl | rfl <;> decide +kernel
theorem kit_tuple (T : String) (h : TyName T) (ds : List PyData) : kitB "tuple" T = some (isK T (.tuple ds)) := by
  have e : isK T (.tuple ds) = isK T (.tuple []) := rfl
  rw [e]
  rcases h with rfl | rfl | rfl | rfl | rfl <;> decide +kernel
theorem ty_of {K : PySem.W.Frag} {H : Hp} {v : V} {d : PyData} (h : Dq H v d) : TyX K H v (.type (kindOf d)) := by
  cases h with
  | non => exact .base .non
  | bl b => exact .base (.bl b)
  | int i => exact .base (.int i)
  | lst h1 _ => exact .base (.lst h1)
  | tup h1 _ => exact .base (.tup h1)
theorem kit_of' (T : String) (h : TyName T) {H : Hp} {v : V} {d : PyData} (hd : Dq H v d) (K : PySem.W.Frag) : PySem.W.kitOne K (.type (kindOf d)) (.type T) = some (isK T d) := by
  cases hd with
  | non => exact kit_ty (kit_none T h)
  | bl b => exact kit_ty (kit_bool T h b)
  | int i => exact kit_ty (kit_int T h i)
  | lst _ _ => exact kit_ty (kit_list T h _)
  | tup _ _ => exact kit_ty (kit_tuple T h _)
theorem pd_isi {T : String} {q : Pos} (hT : TyName T) (hm : X.mg "isinstance" = none) (hm2 : X.mg (Str.ofString T) = none) (hb2 : bootBuiltins (Str.ofString T) = some (.type T)) (ha : PE X a (tE E .val f1)) (hg : Gl X "isinstance" := by rfl) (hg2 : Gl X (Str.ofString T) := by rfl)
    (hn : Str.ofString T ≠ "__name__" := by decide) (hd : (Str.ofString T == ("__debug__" : Str)) = false := by decide)
    (he : starEach [a, .Name (Str.ofString T) q] X.env = (false, eval a X.env) :: starEach [.Name (Str.ofString T) q] X.env := by rfl) (he2 : starEach [.Name (Str.ofString T) q] X.env = (false, eval (.Name (Str.ofString T) q) X.env) :: starEach [] X.env := by rfl)
    (hpl : (backTo pos (starEach [.Name (Str.ofString T) q] X.env)).any (·.1) = false := by rfl) : PE X (.Call (.Name "isinstance" p) [a, .Name (Str.ofString T) q] [] pos) (tE E .val (e1 (dIsi T) f1)) := by
  refine (pe_callB call_isi hg hm PyProof.Rows.boot_isinstance (pa_cons ha (pa_cons (pe_bltn (v := .ty T) hg2 hm2 hb2 rfl hn hd) pa_nil he2) he) (he := he) (hpl := hpl)).imp fun σ H Q ⟨S, env, d, rel, e, q⟩ => ?_
  unfold e1 at e
  obtain ⟨dx, ex, e⟩ := Option.bind_eq_some_iff.mp e
  refine ⟨S, env, dx, rel, ex, fun v S' H' g hv => ?_⟩
  unfold dIsi at e
  split at e
  · cases e
    have hv' := Dq.sub g.sh _ _ hv
    exact ⟨v, .ty T, _, _, _, rfl, .ty T, ty_of hv', kit_of' T hT hv' X.K, q _ S' H' g (Dq.bl _)⟩
  · cases e
def dIsi2 (T1 T2 : String) : DV → Option DV
  | .dat d => some (dB (isK T1 d || isK T2 d))
  | _ => none
theorem pd_isi2 {T1 T2 : String} {kt : Nat} {q q' qt : Pos} (h1 : TyName T1) (h2 : TyName T2) (hm : X.mg "isinstance" = none) (hm1 : X.mg (Str.ofString T1) = none) (hm2 : X.mg (Str.ofString T2) = none)
    (hb1 : bootBuiltins (Str.ofString T1) = some (.type T1)) (hb2 : bootBuiltins (Str.ofString T2) = some (.type T2)) (ha : PE X a (tE E .val f1)) (hg : Gl X "isinstance" := by rfl) (hg1 : Gl X (Str.ofString T1) := by rfl) (hg2 : Gl X (Str.ofString T2) := by rfl)
    (hn1 : Str.ofString T1 ≠ "__name__" := by decide) (hd1 : (Str.ofString T1 == ("__debug__" : Str)) = false := by decide) (hn2 : Str.ofString T2 ≠ "__name__" := by decide) (hd2 : (Str.ofString T2 == ("__debug__" : Str)) = false := by decide)
    (he : starEach [a, .Tuple [.Name (Str.ofString T1) q, .Name (Str.ofString T2) q'] kt qt] X.env = (false, eval a X.env) :: starEach [.Tuple [.Name (Str.ofString T1) q, .Name (Str.ofString T2) q'] kt qt] X.env := by rfl)
    (he2 : starEach [.Tuple [.Name (Str.ofString T1) q, .Name (Str.ofString T2) q'] kt qt] X.env = (false, eval (.Tuple [.Name (Str.ofString T1) q, .Name (Str.ofString T2) q'] kt qt) X.env) :: starEach [] X.env := by rfl)
    (hpl : (backTo pos (starEach [.Tuple [.Name (Str.ofString T1) q, .Name (Str.ofString T2) q'] kt qt] X.env)).any (·.1) = false := by rfl) :
    PE X (.Call (.Name "isinstance" p) [a, .Tuple [.Name (Str.ofString T1) q, .Name (Str.ofString T2) q'] kt qt] [] pos) (tE E .val (e1 (dIsi2 T1 T2) f1)) := by
  refine (pe_callB call_isiT hg hm PyProof.Rows.boot_isinstance (pa_cons ha (pa_cons (pe_tup (pa_cons (pe_bltn (v := .ty T1) hg1 hm1 hb1 rfl hn1 hd1) (pa_cons (pe_bltn (v := .ty T2) hg2 hm2 hb2 rfl hn2 hd2) pa_nil))) pa_nil he2) he) (he := he) (hpl := hpl)).imp fun σ H Q ⟨S, env, d, rel, e, q⟩ => ?_
  unfold e1 at e
  obtain ⟨dx, ex, e⟩ := Option.bind_eq_some_iff.mp e
  refine ⟨S, env, dx, rel, ex, fun v S' H' g hv => ?_⟩
  refine ⟨by show 2 ≤ sizeLine; decide, fun t n => ?_⟩
  have r1 := rel.grow g
  have g2 := Grow.lay0 (T := E.T) (o := .tup [.ty T1, .ty T2]) r1.sh r1.tabs n
  unfold dIsi2 at e
  split at e
  · cases e
    have hv' : Dq (upd H' t (.tup [.ty T1, .ty T2])) v _ := Dq.sub g2.sh _ _ hv
    refine ⟨v, t, [.ty T1, .ty T2], _, [.type T1, .type T2], _, rfl, upd_same, .cons (.ty T1) (.cons (.ty T2) .nil), ty_of hv', ?_, q _ S' _ (g.trans g2) (Dq.bl _)⟩
    refine kitAny_cons (kit_of' T1 h1 hv' X.K) (fun h => ?_) fun h => by rw [h, Bool.true_or]
    rw [h, Bool.false_or]
    refine kitAny_cons (kit_of' T2 h2 hv' X.K) (fun h => ?_) fun h => h
    rw [h]; exact kitAny_nil
  · cases e

/-! ### list(range(n)) -/
def dLRange : DV → Option DV
  | .dat (.int n) => if 0 ≤ n ∧ n ≤ 100000 then some (.dat (.list (rngD n.toNat))) else none
  | _ => none
theorem dq_rng {S : Hp} (n : Nat) : DqAll S (rgV 0 (n : Int)) (rngD n) := by
  have e : rgV 0 (n : Int) = (List.range n).map fun i => V.int (i : Nat) := by
    unfold rgV
    rw [Int.sub_zero, Int.toNat_natCast]
    exact List.map_congr_left fun i _ => by rw [Int.zero_add]
  rw [e]
  unfold rngD
  induction List.range n with
  | nil => exact .nil
  | cons i r ih => exact .cons (.int _) ih
theorem pd_lrange {p2 pos2 : Pos} (hc : X.calm = true) (hm : X.mg "list" = none) (hm2 : X.mg "range" = none) (ha : PE X a (tE E .val f1)) (hg : Gl X "list" := by rfl) (hg2 : Gl X "range" := by rfl) (na : starEach [a] X.env = (false, eval a X.env) :: starEach [] X.env := by rfl)
    (nb : starEach [.Call (.Name "range" p2) [a] [] pos2] X.env = (false, eval (.Call (.Name "range" p2) [a] [] pos2) X.env) :: starEach [] X.env := by rfl) :
    PE X (.Call (.Name "list" p) [.Call (.Name "range" p2) [a] [] pos2] [] pos) (tE E .own (e1 dLRange f1)) :=
  (pe_listRg hc hg hm (prg_1 hg2 hm2 ha na) nb).imp fun σ H Q ⟨S, env, d, rel, e, q⟩ => by
    unfold e1 at e
    obtain ⟨dx, ex, e⟩ := Option.bind_eq_some_iff.mp e
    refine ⟨S, env, dx, rel, ex, fun v S' H' g hv => ?_⟩
    unfold dLRange at e
    split at e
    · split at e
      · rename_i n hz
        cases e
        cases hv
        refine ⟨n, rfl, RgOk.of_le (by omega) (by omega) (by omega) (by omega), fun l hl => ?_⟩
        obtain ⟨j, rfl⟩ := Int.eq_ofNat_of_zero_le hz.1
        have r1 := rel.grow g
        obtain ⟨g2, z⟩ := own_lst (E := E) r1.sh r1.tb hl (dq_rng j)
        exact q _ _ _ (g.trans g2) (z.back fun a => g.free)
      · cases e
    · cases e

/-! ### len(set(t)), t a tuple of ints -/
def dedup : List Int → List Int
  | [] => []
  | i :: r => if i ∈ r then dedup r else i :: dedup r
theorem dedup_mem : ∀ {l : List Int} {i : Int}, i ∈ dedup l ↔ i ∈ l
  | [], _ => Iff.rfl
  | j :: r, i => by
    unfold dedup
    split
    · rename_i h
      rw [dedup_mem (l := r), List.mem_cons]
      exact ⟨.inr, fun z => z.elim (fun e => e ▸ h) fun z => z⟩
    · rw [List.mem_cons, List.mem_cons, dedup_mem (l := r)]
theorem dedup_nodup : ∀ l : List Int, (dedup l).Nodup
  | [] => .nil
  | j :: r => by
    unfold dedup
    split
    · exact dedup_nodup r
    · rename_i h
      exact List.nodup_cons.mpr ⟨fun z => h (dedup_mem.mp z), dedup_nodup r⟩
def dLenSet : DV → Option DV
  | .dat (.tuple ds) => (intsOf ds).bind fun ns => if ns.length ≤ 500 then some (.dat (.int (dedup ns).length)) else none
  | _ => none
theorem pd_lenset {p2 q' : Pos} (hc : X.calm = true) (hm : X.mg "len" = none) (hm2 : X.mg "set" = none) (ha : PE X a (tE E .val f1)) (hg : Gl X "len" := by rfl) (hg2 : Gl X "set" := by rfl)
    (na : starEach [a] X.env = (false, eval a X.env) :: starEach [] X.env := by rfl) : PE X (.Call (.Name "len" p) [.Call (.Name "set" p2) [a] [] q'] [] pos) (tE E .val (e1 dLenSet f1)) := by
  refine ⟨fun pins s σ H Q I ⟨S, env, d, rel, e, q⟩ => ?_⟩
  unfold e1 at e
  obtain ⟨dx, ex, e⟩ := Option.bind_eq_some_iff.mp e
  obtain ⟨ds, ns, rfl, hns, hz, rfl⟩ : ∃ ds ns, dx = .dat (.tuple ds) ∧ intsOf ds = some ns ∧ ns.length ≤ 500 ∧ d = .dat (.int (dedup ns).length) := by
    unfold dLenSet at e
    split at e
    · obtain ⟨ns, h1, e⟩ := Option.bind_eq_some_iff.mp e
      split at e
      · cases e; exact ⟨_, ns, rfl, h1, by assumption, rfl⟩
      · cases e
    · cases e
  refine Call_ (ld_blt I hg hm PySem.boot_len ?_)
  refine PyProof.Rows.callWith_builtin1 (PyProof.Rows.args_cons ?_ rfl) rfl rfl
  refine Call_ (ld_blt I hg2 hm2 PyProof.Rows.boot_set ?_)
  refine PyProof.Rows.callWith_type1 (PyProof.Rows.args_cons (thn (ha.run pins s σ H (fun v H1 => ∃ S1, Grow E.T S H S1 H1 ∧ Dq S1 v (.tuple ds)) I ⟨S, env, _, rel, ex, fun v S1 H1 g hv => ⟨S1, g, hv⟩⟩) fun u s1 ⟨y, H1, I1, r1, S1, g1, hy⟩ => PyProof.Rows.args_nil ?_) na) na rfl
  obtain ⟨t, vs, rfl, _, ht, hd⟩ := Dq.sqt (K := X.K) g1.sh hy
  cases r1
  have := intsOf_ok hd hns
  subst this
  obtain ⟨its, rv, tp, _⟩ := I1.tuple ht
  have hi : IntsAre its.toArray.toList ns := by simpa using rv.ints
  refine call_set_tupI ns (I1.ok.hd hc) (show s1.heap.IsTuple t its.toArray from tp) hi (by unfold scanBound; omega) fun h' tk cc hS hle kp => ?_
  refine PyProof.Rows.args_nil ?_
  obtain ⟨o, es, ep, t', ho, hex, hdt, hgood, hnd, hmem, hsb, hf, hn, _⟩ := hS
  have hlen : es.size = (dedup ns).length := by
    have e1 : (es.toList.map L2.keyOf).length ≤ (dedup ns).length := List.Nodup.length_le_of_subset hnd fun i hi => dedup_mem.mpr (by have := (hmem i).mpr hi; simpa using this)
    have e2 : (dedup ns).length ≤ (es.toList.map L2.keyOf).length := List.Nodup.length_le_of_subset (dedup_nodup ns) fun i hi => (hmem i).mp (by simpa using dedup_mem.mp hi)
    have e3 : (es.toList.map L2.keyOf).length = es.size := by rw [List.length_map]; exact Array.length_toList
    omega
  have I2 : Inv X pins σ H1 { s1 with heap := h', toks := tk } := I1.kept kp
  refine call_len_set ho hex hdt hf (by omega) ⟨.int (dedup ns).length, H1, I2.tok _, ⟨_, by rw [hlen]⟩, q _ S1 H1 g1 (Dq.int _)⟩
end
end FD
end

section
set_option Elab.async false
set_option linter.all false
set_option maxRecDepth 100000
set_option maxHeartbeats 4000000
/-! FD10: environments set and forgotten; targets; list comprehensions. -/
namespace FD
open PySem PySem.Spec PyProof.Rows L2
theorem set_get {α : Type} {l : List α} {i j : Nat} {a b : α} (h : (l.set i a)[j]? = some b) : (i = j ∧ b = a ∧ i < l.length) ∨ (i ≠ j ∧ l[j]? = some b) := by
  by_cases e : i = j
  · subst e
    have hl : i < l.length := by
      have := (List.getElem?_eq_some_iff.mp h).1
      rwa [List.length_set] at this
    rw [List.getElem?_set_self hl] at h
    exact .inl ⟨rfl, (Option.some.inj h).symm, hl⟩
  · rw [List.getElem?_set_ne e] at h
    exact .inr ⟨e, h⟩
def wipeD (env : DE) : List Nat → DE
  | [] => env
  | v :: vs => (wipeD env vs).set v none
theorem wipeD_length (env : DE) : ∀ vs : List Nat, (wipeD env vs).length = env.length
  | [] => rfl
  | v :: vs => by unfold wipeD; rw [List.length_set, wipeD_length env vs]
theorem wipeD_some {env : DE} {i : Nat} {p : Bool × DV} : ∀ {vs : List Nat}, (wipeD env vs)[i]? = some (some p) → env[i]? = some (some p) ∧ i ∉ vs
  | [], h => ⟨h, by simp⟩
  | v :: vs, h => by
    unfold wipeD at h
    rcases set_get h with ⟨_, e, _⟩ | ⟨n, h⟩
    · cases e
    · obtain ⟨h1, h2⟩ := wipeD_some h
      exact ⟨h1, by simp only [List.mem_cons, not_or]; exact ⟨fun e => n e.symm, h2⟩⟩
theorem wipe_out {σ : L2.St} {i : Nat} : ∀ {vs : List Nat}, i ∉ vs → (wipe σ vs)[i]? = σ[i]?
  | [], _ => rfl
  | v :: vs, h => by
    unfold wipe
    simp only [List.mem_cons, not_or] at h
    rw [List.getElem?_set_ne (Ne.symm h.1)]
    exact wipe_out h.2
/-- setting a slot that is wiped -/
theorem wipe_set {σ : L2.St} {i : Nat} {o : Option V} : ∀ {vs : List Nat}, i ∈ vs → wipe (σ.set i o) vs = wipe σ vs
  | v :: vs, h => by
    unfold wipe
    by_cases hv : i ∈ vs
    · rw [wipe_set hv]
    · have e : i = v := by
        rcases List.mem_cons.mp h with e | e
        · exact e
        · exact absurd e hv
      subst e
      have key : ∀ (vs : List Nat) , (wipe (σ.set i o) vs).set i none = (wipe σ vs).set i none := by
        intro vs
        induction vs with
        | nil => show (σ.set i o).set i none = σ.set i none; rw [List.set_set]
        | cons w ws ih =>
          show ((wipe (σ.set i o) ws).set w none).set i none = ((wipe σ ws).set w none).set i none
          by_cases hw : w = i
          · subst hw
            rw [List.set_set, List.set_set, ih]
          · rw [List.set_comm _ _ hw, ih, List.set_comm _ _ (Ne.symm hw)]
      exact key vs
theorem wipe_in {σ : L2.St} {vs : List Nat} : ∀ {ws : List Nat}, (∀ i ∈ ws, i ∈ vs) → wipe (wipe σ ws) vs = wipe σ vs
  | [], _ => rfl
  | w :: ws, h => by
    show wipe ((wipe σ ws).set w none) vs = _
    rw [wipe_set (h w (List.mem_cons_self ..))]
    exact wipe_in fun i hi => h i (List.mem_cons_of_mem _ hi)
section
variable {X : Cx} {E : Fx} {m m1 m2 : M} {f f1 f2 f3 : DE → Option DV} {a b c tg : Expr} {pos p q1 : Pos} {T : List Addr} {k : Nat} {x : Str} {id : String}
variable {env env' : DE} {σ σ' : L2.St} {S H S' H' S0 F : Hp}
theorem RelE.weak (r : RelE E env σ S H) (hl : env'.length = σ'.length) (h : ∀ (i : Nat) (p : Bool × DV), env'[i]? = some (some p) → env[i]? = some (some p) ∧ σ'[i]? = σ[i]?) : RelE E env' σ' S H where
  len := hl
  sh := r.sh
  tb := r.tb
  val := fun i x e => by
    obtain ⟨h1, h2⟩ := h i _ e
    obtain ⟨v, h3, h4⟩ := r.val i x h1
    exact ⟨v, h2.trans h3, h4⟩
  own := fun i x e => by
    obtain ⟨h1, h2⟩ := h i _ e
    obtain ⟨a, o, h3, h4⟩ := r.own i x h1
    exact ⟨a, o, h2.trans h3, h4⟩
  uniq := fun i j x y a e1 e2 s1 s2 => by
    obtain ⟨h1, h2⟩ := h i _ e1
    obtain ⟨h3, h4⟩ := h j _ e2
    exact r.uniq i j x y a h1 h3 (h2.symm.trans s1) (h4.symm.trans s2)
theorem RelE.wipe (r : RelE E env σ S H) (vs : List Nat) : RelE E (wipeD env vs) (L2.wipe σ vs) S H :=
  r.weak (by rw [wipeD_length, wipe_length]; exact r.len) fun i p e => ⟨(wipeD_some e).1, wipe_out (wipeD_some e).2⟩
theorem RelE.forget (r : RelE E env σ S H) (vs : List Nat) : RelE E (wipeD env vs) σ S H :=
  r.weak (by rw [wipeD_length]; exact r.len) fun i p e => ⟨(wipeD_some e).1, rfl⟩
theorem RelE.set (r : RelE E env σ S H) (i : Nat) {v : V} {x : DV} (h : Dn E S v x) : RelE E (env.set i (some (false, x))) (σ.set i (some v)) S H where
  len := by rw [List.length_set, List.length_set]; exact r.len
  sh := r.sh
  tb := r.tb
  val := fun j y e => by
    rcases set_get e with ⟨rfl, e, hl⟩ | ⟨n, e⟩
    · cases e
      exact ⟨v, List.getElem?_set_self (by rw [← r.len]; exact hl), h⟩
    · obtain ⟨u, h1, h2⟩ := r.val j y e
      exact ⟨u, by rw [List.getElem?_set_ne n]; exact h1, h2⟩
  own := fun j y e => by
    rcases set_get e with ⟨rfl, e, hl⟩ | ⟨n, e⟩
    · cases e
    · obtain ⟨a, o, h1, h2⟩ := r.own j y e
      exact ⟨a, o, by rw [List.getElem?_set_ne n]; exact h1, h2⟩
  uniq := fun j l y z a e1 e2 s1 s2 => by
    rcases set_get e1 with ⟨rfl, e, hl⟩ | ⟨n1, e1⟩
    · cases e
    rcases set_get e2 with ⟨rfl, e, hl⟩ | ⟨n2, e2⟩
    · cases e
    rw [List.getElem?_set_ne n1] at s1
    rw [List.getElem?_set_ne n2] at s2
    exact r.uniq j l y z a e1 e2 s1 s2
theorem RelE.setO (r : RelE E env σ S H) (i : Nat) {a : Addr} {o : HO} {x : DV} (h1 : S a = none) (h2 : H a = some o) (h3 : ObjD E S a x o) (fr : ∀ (j : Nat) (y : DV), env[j]? = some (some (true, y)) → σ[j]? ≠ some (some (V.ref a))) :
    RelE E (env.set i (some (true, x))) (σ.set i (some (.ref a))) S H where
  len := by rw [List.length_set, List.length_set]; exact r.len
  sh := r.sh
  tb := r.tb
  val := fun j y e => by
    rcases set_get e with ⟨rfl, e, hl⟩ | ⟨n, e⟩
    · cases e
    · obtain ⟨u, h1, h2⟩ := r.val j y e
      exact ⟨u, by rw [List.getElem?_set_ne n]; exact h1, h2⟩
  own := fun j y e => by
    rcases set_get e with ⟨rfl, e, hl⟩ | ⟨n, e⟩
    · cases e
      exact ⟨a, o, List.getElem?_set_self (by rw [← r.len]; exact hl), h1, h2, h3⟩
    · obtain ⟨a, o, h1, h2⟩ := r.own j y e
      exact ⟨a, o, by rw [List.getElem?_set_ne n]; exact h1, h2⟩
  uniq := fun j l y z b e1 e2 s1 s2 => by
    rcases set_get e1 with ⟨rfl, e, hl⟩ | ⟨n1, e1⟩
    · rcases set_get e2 with ⟨rfl, e', hl'⟩ | ⟨n2, e2⟩
      · rfl
      · rw [List.getElem?_set_self (by rw [← r.len]; exact hl)] at s1
        rw [List.getElem?_set_ne n2] at s2
        cases s1
        exact absurd s2 (fr l z e2)
    · rcases set_get e2 with ⟨rfl, e', hl'⟩ | ⟨n2, e2⟩
      · rw [List.getElem?_set_self (by rw [← r.len]; exact hl')] at s2
        rw [List.getElem?_set_ne n1] at s1
        cases s2
        exact absurd s1 (fr j y e1)
      · rw [List.getElem?_set_ne n1] at s1
        rw [List.getElem?_set_ne n2] at s2
        exact r.uniq j l y z b e1 e2 s1 s2

theorem _root_.FD.Grow.upd {T : List Addr} {D : Addr} {o : HO} (g : Grow T S H S' H') (hD : H D = none) (nS : S' D = none) (nT : D ∉ T) : Grow T S H S' (L2.upd H' D o) where
  ss := g.ss
  sh := fun b u e => by
    rw [upd_ne (fun z => by rw [z, nS] at e; cases e)]; exact g.sh b u e
  hh := fun b u n e => by
    rw [upd_ne (ne_of_none e hD)]; exact g.hh b u n e
  nw := g.nw
  tb := fun P hP => by
    obtain ⟨ps, e, r⟩ := g.tb P hP
    have n : P ≠ D := fun z => nT (z ▸ hP)
    exact ⟨ps, by rw [upd_ne n]; exact e, r⟩
/-! ### targets -/
/-- a step of targets: the slots is set, own data only dropped -/
structure Stp (is : List Nat) (env : DE) (σ : L2.St) (env' : DE) (σ' : L2.St) : Prop where
  wp : ∀ vs : List Nat, (∀ i ∈ is, i ∈ vs) → wipe σ' vs = wipe σ vs
  own : ∀ (j : Nat) (y : DV), env'[j]? = some (some (true, y)) → env[j]? = some (some (true, y)) ∧ σ'[j]? = σ[j]?
theorem Stp.refl : Stp [] env σ env σ := ⟨fun _ _ => rfl, fun _ _ e => ⟨e, rfl⟩⟩
theorem Stp.set (i : Nat) (v : V) (x : DV) : Stp [i] env σ (env.set i (some (false, x))) (σ.set i (some v)) :=
  ⟨fun vs h => wipe_set (h i (by simp)), fun j y e => by
    rcases set_get e with ⟨rfl, e, hl⟩ | ⟨n, e⟩
    · cases e
    · exact ⟨e, by rw [List.getElem?_set_ne n]⟩⟩
theorem Stp.trans {is js : List Nat} {env1 : DE} {σ1 : L2.St} (a : Stp is env σ env1 σ1) (b : Stp js env1 σ1 env' σ') : Stp (is ++ js) env σ env' σ' :=
  ⟨fun vs h => (b.wp vs fun i hi => h i (List.mem_append_right _ hi)).trans (a.wp vs fun i hi => h i (List.mem_append_left _ hi)), fun j y e => by
    obtain ⟨e1, s1⟩ := b.own j y e
    obtain ⟨e2, s2⟩ := a.own j y e1
    exact ⟨e2, s1.trans s2⟩⟩
def tG (E : Fx) (is : List Nat) (g : PyData → DE → Option DE) : TG := fun x σ H Q => ∃ S env d env', RelE E env σ S H ∧ Dq S x d ∧ g d env = some env' ∧ ∀ σ', Stp is env σ env' σ' → RelE E env' σ' S H → Q σ' H
def gtN (i : Nat) : PyData → DE → Option DE := fun d env => some (env.set i (some (false, .dat d)))
def setAll : DE → List Nat → List PyData → DE
  | env, i :: is, d :: ds => setAll (env.set i (some (false, .dat d))) is ds
  | env, _, _ => env
def gtT (is : List Nat) : PyData → DE → Option DE := fun d env => match d with
  | .tuple ds => if ds.length = is.length then some (setAll env is ds) else none
  | _ => none
def tGs (E : Fx) (is : List Nat) : TGs := fun vs σ H Q => ∃ S env ds, RelE E env σ S H ∧ DqAll S vs ds ∧ ds.length = is.length ∧ ∀ σ', Stp is env σ (setAll env is ds) σ' → RelE E (setAll env is ds) σ' S H → Q σ' H
theorem _root_.L2.PG.imp {e : Expr} {t t' : TG} (h : PG X e t) (z : ∀ v σ H Q, t' v σ H Q → t v σ H Q) : PG X e t' := ⟨fun pins s σ H v u Q I r q => h.run pins s σ H v u Q I r (z v σ H Q q)⟩
theorem _root_.L2.PGs.imp {e : List Expr} {t t' : TGs} (h : PGs X e t) (z : ∀ v σ H Q, t' v σ H Q → t v σ H Q) : PGs X e t' := ⟨fun pins s σ H v u Q I r q => h.run pins s σ H v u Q I r (z v σ H Q q)⟩
theorem gd_name {i : Nat} (hN : X.N.Nodup) (hi : X.N[i]? = some x) (hx : Loc X.env.scope x) (hf : X.fn x = true ∨ X.env.scope.names.lookup x = some .local) : PG X (.Name x pos) (tG E [i] (gtN i)) :=
  (pg_name hN hi hx hf).imp fun v σ H Q ⟨S, env, d, env', rel, hd, e, q⟩ => by
    cases e
    exact q _ (Stp.set i v _) (rel.set i (show Dn E S v (.dat d) from hd))
theorem gds_nil : PGs X [] (tGs E []) := pgs_nil.imp fun v σ H Q ⟨S, env, ds, rel, hd, e, q⟩ => by
  cases ds with
  | nil => cases hd; exact ⟨rfl, q _ Stp.refl rel⟩
  | cons _ _ => cases e
theorem gds_cons {es : List Expr} {is : List Nat} {i : Nat} (hN : X.N.Nodup) (hi : X.N[i]? = some x) (hx : Loc X.env.scope x) (hf : X.fn x = true ∨ X.env.scope.names.lookup x = some .local) (hr : PGs X es (tGs E is))
    (hs : (assignEach (.Name x pos :: es) X.env).map (·.2) = assign (.Name x pos) X.env :: (assignEach es X.env).map (·.2) := by rfl) : PGs X (.Name x pos :: es) (tGs E (i :: is)) :=
  (pgs_cons (pg_name hN hi hx hf) hr hs).imp fun v σ H Q ⟨S, env, ds, rel, hd, e, q⟩ => by
    cases hd with
    | nil => cases e
    | @cons v vs d ds h1 h2 =>
      refine ⟨v, vs, rfl, S, _, ds, rel.set i (show Dn E S v (.dat d) from h1), h2, Nat.succ.inj e, fun σ' st r => q σ' ?_ r⟩
      exact (Stp.set i v (.dat d)).trans st
theorem gd_tup {es : List Expr} {k : Nat} {is : List Nat} (hc : X.calm = true) (h : PGs X es (tGs E is))
    (hn : (assignEach es X.env).length = is.length := by rfl) (hst : (assignEach es X.env).findIdx? (·.1) = none := by rfl) : PG X (.Tuple es k pos) (tG E is (gtT is)) :=
  (pg_tup hc h hn hst).imp fun v σ H Q ⟨S, env, d, env', rel, hd, e, q⟩ => by
    unfold gtT at e
    split at e
    · split at e
      · rename_i hl
        cases e
        cases hd with
        | tup h1 h2 => exact ⟨_, _, rfl, SqT.of (rel.sh _ _ h1), by rw [h2.length, hl], S, env, _, rel, h2, hl, q⟩
      · cases e
    · cases e

/-! ### list comprehensions -/
def lcGo (vs : List Nat) (gt : PyData → DE → Option DE) (tt : DE → Option Bool) (te : DE → Option DV) (env : DE) : List PyData → Option (List PyData)
  | [] => some []
  | d :: ds => (gt d (wipeD env vs)).bind fun e2 => (tt e2).bind fun b => if b = true then (te e2).bind fun y => match y with
      | .dat r => (lcGo vs gt tt te env ds).map (r :: ·)
      | _ => none
    else lcGo vs gt tt te env ds
def eLc (vs : List Nat) (fi : DE → Option (List PyData)) (gt : PyData → DE → Option DE) (tt : DE → Option Bool) (te : DE → Option DV) : DE → Option DV := fun env =>
  (fi env).bind fun ds => if ds.length ≤ 100000 then (lcGo vs gt tt te env ds).map fun rs => .dat (.list rs) else none
def tYesF : DE → Option Bool := fun _ => some true
theorem tyes {σ : L2.St} {H : Hp} {Q : Bool → Hp → Prop} (h : tT E tYesF σ H Q) : tYes σ H Q := by
  obtain ⟨S, env, b, rel, e, k⟩ := h
  cases e
  exact k S H rel.refl
theorem tE_lc {vs is : List Nat} {fi : DE → Option (List PyData)} {gt : PyData → DE → Option DE} {tt : DE → Option Bool} {te : DE → Option DV} (his : ∀ i ∈ is, i ∈ vs) {σ : L2.St} {H : Hp} {Q : VK}
    (h : tE E .own (eLc vs fi gt tt te) σ H Q) : tLc (tI E fi) (tG E is gt) (tT E tt) (tE E .val te) vs σ H Q := by
  obtain ⟨S, env, x, rel, e, k⟩ := h
  unfold eLc at e
  obtain ⟨ds, eds, e⟩ := Option.bind_eq_some_iff.mp e
  split at e
  rotate_left
  · cases e
  rename_i hz
  obtain ⟨rs, ers, rfl⟩ := Option.map_eq_some_iff.mp e
  refine ⟨S, env, ds, rel, eds, fun J S1 H1 g1 it => ?_⟩
  intro D hD
  have rel1 := rel.grow g1
  have nT : D ∉ E.T := fun z => by
    obtain ⟨o, e⟩ := TabG.some (g1.tb D z)
    rw [hD] at e; cases e
  have nS : S1 D = none := by
    cases q : S1 D with
    | none => rfl
    | some o => have := g1.sh D o q; rw [hD] at this; cases this
  have dr : ∀ {i : Nat} {d : PyData}, ds[i]? = some d → ds.drop i = d :: ds.drop (i + 1) := fun {i d} e => by
    obtain ⟨h1, h2⟩ := List.getElem?_eq_some_iff.mp e
    rw [List.drop_eq_getElem_cons h1, h2]
  refine ⟨fun i m H3 => m = ds.length - i ∧ i ≤ ds.length ∧ ∃ S3 acc accd rest, Grow E.T S1 H1 S3 H3 ∧ S3 D = none ∧ H3 D = some (.lst acc) ∧ DqAll S3 acc accd ∧ acc.length ≤ i ∧ lcGo vs gt tt te env (ds.drop i) = some rest ∧ accd ++ rest = rs,
    ⟨ds.length, by rw [Nat.sub_zero], Nat.zero_le _, S1, [], [], rs, (Grow.refl g1.sh g1.tb).upd hD nS nT, nS, upd_same, .nil, Nat.le_refl _, ers, rfl⟩, ?_⟩
  rintro i m H3 ⟨rfl, hi, S3, acc, accd, rest, g3, n3, hD3, hacc, hlen, hgo, happ⟩
  have rel3 := rel1.grow g3
  have it3 := it S3 H3 g3.ss g3.sh rel3.tb i
  by_cases hlt : i < ds.length
  · have ed : ds[i]? = some ds[i] := List.getElem?_eq_getElem hlt
    obtain ⟨go, yl⟩ := it3.1 _ ed
    refine .inr ⟨go, fun H' => ∃ S3 acc accd rest, Grow E.T S1 H1 S3 H' ∧ S3 D = none ∧ H' D = some (.lst acc) ∧ DqAll S3 acc accd ∧ acc.length ≤ i + 1 ∧ lcGo vs gt tt te env (ds.drop (i + 1)) = some rest ∧ accd ++ rest = rs,
      fun H' z => ⟨ds.length - (i + 1), by omega, rfl, by omega, z⟩, fun x H4 y => ?_⟩
    obtain ⟨S4, g4, hx⟩ := yl x H4 y
    rw [dr ed] at hgo
    unfold lcGo at hgo
    obtain ⟨e2, ege, hgo⟩ := Option.bind_eq_some_iff.mp hgo
    obtain ⟨b, etb, hgo⟩ := Option.bind_eq_some_iff.mp hgo
    refine ⟨S4, wipeD env vs, ds[i], e2, (rel3.grow g4).wipe vs, hx, ege, fun σ2 st r2 => ⟨(st.wp vs his).trans (wipe_in fun i hi => hi), S4, e2, b, r2, etb, fun S5 H5 g5 => ?_⟩⟩
    have g45 := g4.trans g5
    have nT3 := nT
    have keepD : ∀ {S' H' : Hp}, Grow E.T S3 H3 S' H' → H' D = some (.lst acc) ∧ S' D = none := fun {S' H'} g => ⟨g.hh D _ nT hD3, g.nw D _ hD3 n3⟩
    cases b with
    | true =>
      show ite _ _ _
      rw [if_pos rfl] at hgo ⊢
      obtain ⟨y, ey, hgo⟩ := Option.bind_eq_some_iff.mp hgo
      split at hgo
      rotate_left
      · cases hgo
      obtain ⟨rest', er, rfl⟩ := Option.map_eq_some_iff.mp hgo
      refine ⟨S5, e2, _, r2.grow g5, ey, fun v S6 H6 g6 hv => ?_⟩
      have g := g45.trans g6
      obtain ⟨k1, k2⟩ := keepD g
      refine ⟨acc, k1, ?_, S6, acc ++ [v], accd ++ [_], rest', (g3.trans g).upd hD k2 nT, k2, upd_same, (DqAll.sub g.ss _ _ hacc).append (.cons hv .nil), by rw [List.length_append]; exact Nat.succ_le_succ hlen, er, by rw [List.append_assoc]; exact happ⟩
      have := small (n := acc.length + 1) (by omega)
      omega
    | false =>
      show ite _ _ _
      rw [if_neg Bool.false_ne_true] at hgo ⊢
      obtain ⟨k1, k2⟩ := keepD g45
      exact ⟨S5, acc, accd, rest, g3.trans g45, k2, k1, DqAll.sub g45.ss _ _ hacc, by omega, hgo, happ⟩
  · have e : i = ds.length := by omega
    subst e
    rw [List.drop_length] at hgo
    cases hgo
    rw [List.append_nil] at happ
    subst happ
    have gg := g1.trans g3
    exact .inl ⟨it3.2 (Nat.le_refl _), k _ S3 H3 gg ⟨D, _, rfl, g1.free hD, n3, hD3, acc, rfl, hacc⟩⟩
variable {elt iter : Expr} {ifs : List Expr} {scope : Scope} {own : List (Str × Nat)} {is : List Nat} {fi : DE → Option (List PyData)} {gt : PyData → DE → Option DE} {tt : DE → Option Bool} {te : DE → Option DV}
theorem pd_lc (hc : X.calm = true) (hN : X.N.Nodup) (hi : PI X tg iter (tI E fi)) (ok : BlkOk X.N X.env.scope scope own) (his : ∀ i ∈ is, i ∈ own.map (·.2))
    (hg : ∀ (s : Shared) (H : Hp) (C : Addr) (cl : List (Str × Addr)) (fp : List Addr), PG (X.blk s H scope (compEnvC scope cl C X.env) fp) tg (tG E is gt)) (ht : ∀ (s : Shared) (H : Hp) (C : Addr) (cl : List (Str × Addr)) (fp : List Addr), PTs (X.blk s H scope (compEnvC scope cl C X.env) fp) ifs (tT E tt))
    (he : ∀ (s : Shared) (H : Hp) (C : Addr) (cl : List (Str × Addr)) (fp : List Addr), PE (X.blk s H scope (compEnvC scope cl C X.env) fp) elt (tE E .val te)) (hs : ∀ x, foldedSetIterable iter X.env x = pure x := by intro _; rfl) :
    PE X (.ListComp elt [⟨tg, iter, ifs, 0⟩] scope pos) (tE E .own (eLc (own.map (·.2)) fi gt tt te)) :=
  (pe_lc hc hN hi ok hg ht he hs).imp fun σ H Q h => tE_lc his h
theorem _root_.L2.PTs.imp {e : List Expr} {t t' : TT} (h : PTs X e t) (z : ∀ σ H Q, t' σ H Q → t σ H Q) : PTs X e t' := ⟨fun pins s σ H Q I q => h.run pins s σ H Q I (z σ H Q q)⟩
theorem tds_nil : PTs X [] (tT E tYesF) := pts_nil.imp fun _ _ _ q => tyes q
theorem tds_one {c : Expr} {t : DE → Option Bool} (h : PT X c (tT E t)) : PTs X [c] (tT E t) := pts_one h
end
end FD
end

section
set_option Elab.async false
set_option linter.all false
set_option maxRecDepth 100000
set_option maxHeartbeats 4000000
/-! FD11: statements as functions of data. -/
namespace FD
open PySem PySem.Spec PyProof.Rows L2
inductive Out where
  | nx (env : DE)
  | rt (x : DV)
structure RelS (E : Fx) (S0 F : Hp) (env : DE) (σ : L2.St) (S H : Hp) : Prop where
  rel : RelE E env σ S H
  gr : Grow E.T S0 F S H
  fr : ∀ (i : Nat) (x : DV) (a : Addr), env[i]? = some (some (true, x)) → σ[i]? = some (some (V.ref a)) → F a = none
@[reducible] def md : Bool → M
  | true => .own
  | false => .val
section
variable {X : Cx} {E : Fx} {m m1 m2 : M} {f f1 f2 f3 : DE → Option DV} {a b c tg : Expr} {pos p q1 : Pos} {T : List Addr} {k : Nat} {x : Str} {id : String}
variable {env env' : DE} {σ σ' : L2.St} {S H S' H' S0 F : Hp}
theorem RelS.grow (r : RelS E S0 F env σ S H) (g : Grow E.T S H S' H') : RelS E S0 F env σ S' H' := ⟨r.rel.grow g, r.gr.trans g, r.fr⟩
theorem RelS.base (r : RelS E S0 F env σ S H) : RelS E S F env σ S H :=
  ⟨r.rel, ⟨Sub.refl S, r.gr.sh, r.gr.hh, fun _ _ _ n => n, r.gr.tb⟩, r.fr⟩
theorem Grow.unbase {T : List Addr} (r : Grow T S0 F S H) (g : Grow T S F S' H') : Grow T S0 F S' H' :=
  ⟨r.ss.trans g.ss, g.sh, g.hh, fun a o e n => g.nw a o e (r.nw a o e n), g.tb⟩
theorem RelS.unbase (r : RelS E S0 F env σ S H) (r' : RelS E S F env' σ' S' H') : RelS E S0 F env' σ' S' H' := ⟨r'.rel, r.gr.unbase r'.gr, r'.fr⟩
theorem RelS.step (r : RelS E S0 F env σ S H) {is : List Nat} (st : Stp is env σ env' σ') (rel : RelE E env' σ' S H) : RelS E S0 F env' σ' S H :=
  ⟨rel, r.gr, fun i x a e s => by
    obtain ⟨e1, s1⟩ := st.own i x e
    exact r.fr i x a e1 (s1.symm.trans s)⟩
theorem RelS.forget (r : RelS E S0 F env σ S H) (vs : List Nat) : RelS E S0 F (wipeD env vs) σ S H :=
  ⟨r.rel.forget vs, r.gr, fun i x a e s => r.fr i x a (wipeD_some e).1 s⟩
/-- what own data had before H1 -/
def Old (H : Hp) (env : DE) (σ : L2.St) : Prop := ∀ (j : Nat) (y : DV) (a : Addr), env[j]? = some (some (true, y)) → σ[j]? = some (some (V.ref a)) → ∃ o, H a = some o
theorem RelE.old (r : RelE E env σ S H) : Old H env σ := fun j y a e s => by
  obtain ⟨b, o, h1, h2, h3, h4⟩ := r.own j y e
  rw [h1] at s
  cases s
  exact ⟨o, h3⟩
theorem Old.set (h : Old H env σ) (i : Nat) (x : DV) (v : V) : Old H (env.set i (some (false, x))) (σ.set i (some v)) := fun j y a e s => by
  rcases set_get e with ⟨rfl, e, hl⟩ | ⟨n, e⟩
  · cases e
  · rw [List.getElem?_set_ne n] at s
    exact h j y a e s
/-- a value stored -/
theorem RelS.put (bo : Bool) {H0 : Hp} (r : RelS E S0 F env σ S H) (i : Nat) {v : V} {x : DV} (h : VOk E (md bo) S H0 H v x) (ol : Old H0 env σ) (fo : ∀ a, H0 a = none → F a = none) : RelS E S0 F (env.set i (some (bo, x))) (σ.set i (some v)) S H := by
  cases bo with
  | false => exact ⟨r.rel.set i h, r.gr, fun j y a e s => by
      rcases set_get e with ⟨rfl, e, hl⟩ | ⟨n, e⟩
      · cases e
      · rw [List.getElem?_set_ne n] at s
        exact r.fr j y a e s⟩
  | true =>
    obtain ⟨a, o, rfl, h1, h2, h3, h4⟩ := h
    refine ⟨r.rel.setO i h2 h3 h4 fun j y e s => ?_, r.gr, fun j y b e s => ?_⟩
    · obtain ⟨o', e'⟩ := ol j y a e s
      rw [h1] at e'; cases e'
    · rcases set_get e with ⟨rfl, e, hl⟩ | ⟨n, e⟩
      · rw [List.getElem?_set_self (by rw [← r.rel.len]; exact hl)] at s
        cases s
        exact fo a h1
      · rw [List.getElem?_set_ne n] at s
        exact r.fr j y b e s
/-- own data kept for good from now on -/
theorem RelS.freeze (r : RelS E S0 F env σ S H) {j : Nat} {x : DV} (e : env[j]? = some (some (true, x))) : ∃ v S', σ[j]? = some (some v) ∧ Dn E S' v x ∧ RelS E S0 F (env.set j (some (false, x))) σ S' H ∧ Grow E.T S0 F S' H := by
  obtain ⟨a, o, h1, h2, h3, h4⟩ := r.rel.own j x e
  have hF := r.fr j x a e h1
  have z : Sub S (upd S a o) := fun b u e => by
    rw [upd_ne (fun q => by rw [q, h2] at e; cases e)]; exact e
  have z2 : Sub (upd S a o) H := fun b u e => by
    by_cases hb : b = a
    · subst hb; rw [upd_same] at e; cases e; exact h3
    · rw [upd_ne hb] at e; exact r.rel.sh b u e
  have hD : Dn E (upd S a o) (.ref a) x := by
    cases x with
    | dat d =>
      cases d with
      | list ds => obtain ⟨vs, e, h⟩ := h4; subst e; exact .lst upd_same (DqAll.sub z _ _ h)
      | _ => exact h4.elim
    | dct kvs => exact ⟨a, o, rfl, upd_same, h4.sub z⟩
    | adr b => exact h4.elim
  have aT : a ∉ E.T := notTab r.rel.tabs h3 h4.noTab
  have g : Grow E.T S0 F (upd S a o) H := ⟨r.gr.ss.trans z, z2, r.gr.hh, fun b u e n => by
    rw [upd_ne (ne_of_none e hF)]; exact r.gr.nw b u e n, r.gr.tb⟩
  refine ⟨.ref a, upd S a o, h1, hD, ⟨⟨by rw [List.length_set]; exact r.rel.len, z2, fun P hP => ⟨(r.rel.tb P hP).1, ?_⟩, fun i y e' => ?_, fun i y e' => ?_, fun i l y y' b e1 e2 s1 s2 => ?_⟩, g, fun i y b e' s => ?_⟩, g⟩
  · rw [upd_ne (fun q : P = a => aT (q ▸ hP))]; exact (r.rel.tb P hP).2
  · rcases set_get e' with ⟨rfl, e', hl⟩ | ⟨n, e'⟩
    · cases e'; exact ⟨_, h1, hD⟩
    · obtain ⟨v, s1, s2⟩ := r.rel.val i y e'
      exact ⟨v, s1, s2.sub z⟩
  · rcases set_get e' with ⟨rfl, e', hl⟩ | ⟨n, e'⟩
    · cases e'
    · obtain ⟨b, o', s1, s2, s3, s4⟩ := r.rel.own i y e'
      have : b ≠ a := fun q => by
        subst q
        exact n (r.rel.uniq j i x y b e e' h1 s1)
      exact ⟨b, o', s1, by rw [upd_ne this]; exact s2, s3, s4.sub z⟩
  · rcases set_get e1 with ⟨rfl, e1, hl⟩ | ⟨n1, e1⟩
    · cases e1
    rcases set_get e2 with ⟨rfl, e2, hl⟩ | ⟨n2, e2⟩
    · cases e2
    exact r.rel.uniq i l y y' b e1 e2 s1 s2
  · rcases set_get e' with ⟨rfl, e', hl⟩ | ⟨n, e'⟩
    · cases e'
    · exact r.fr i y b e' s
/-- own data changed in its place -/
theorem RelS.write (r : RelS E S0 F env σ S H) {j : Nat} {x x' : DV} {a : Addr} {o' : HO} (e : env[j]? = some (some (true, x))) (s : σ[j]? = some (some (V.ref a))) (hx : ObjD E S a x' o') : RelS E S0 F (env.set j (some (true, x'))) σ S (upd H a o') := by
  obtain ⟨b, o, h1, h2, h3, h4⟩ := r.rel.own j x e
  rw [s] at h1
  cases h1
  have hF := r.fr j x a e s
  have aT : a ∉ E.T := notTab r.rel.tabs h3 h4.noTab
  have tab : ∀ P ∈ E.T, GxR.TabG (upd H a o') P := fun P hP => by
    obtain ⟨ps, e, q⟩ := r.gr.tb P hP
    have n : P ≠ a := fun z => aT (z ▸ hP)
    exact ⟨ps, by rw [upd_ne n]; exact e, q⟩
  have z2 : Sub S (upd H a o') := fun b u e => by
    rw [upd_ne (fun q => by rw [q, h2] at e; cases e)]; exact r.rel.sh b u e
  refine ⟨⟨by rw [List.length_set]; exact r.rel.len, z2, fun P hP => ⟨tab P hP, (r.rel.tb P hP).2⟩, fun i y e' => ?_, fun i y e' => ?_, fun i l y y' b e1 e2 s1 s2 => ?_⟩, ⟨r.gr.ss, z2, fun b u n e => ?_, r.gr.nw, tab⟩, fun i y b e' s' => ?_⟩
  · rcases set_get e' with ⟨rfl, e', hl⟩ | ⟨n, e'⟩
    · cases e'
    · exact r.rel.val i y e'
  · rcases set_get e' with ⟨rfl, e', hl⟩ | ⟨n, e'⟩
    · cases e'
      exact ⟨a, o', s, h2, upd_same, hx⟩
    · obtain ⟨b, o1, s1, s2, s3, s4⟩ := r.rel.own i y e'
      have : b ≠ a := fun q => by
        subst q
        exact n (r.rel.uniq j i x y b e e' s s1)
      exact ⟨b, o1, s1, s2, by rw [upd_ne this]; exact s3, s4⟩
  · have key : ∀ {i : Nat} {y : DV}, (env.set j (some (true, x')))[i]? = some (some (true, y)) → ∃ y, env[i]? = some (some (true, y)) := fun {i y} e' => by
      rcases set_get e' with ⟨rfl, _, _⟩ | ⟨_, e'⟩
      · exact ⟨x, e⟩
      · exact ⟨y, e'⟩
    obtain ⟨_, k1⟩ := key e1
    obtain ⟨_, k2⟩ := key e2
    exact r.rel.uniq i l _ _ b k1 k2 s1 s2
  · rw [upd_ne (ne_of_none e hF)]; exact r.gr.hh b u n e
  · rcases set_get e' with ⟨rfl, e', hl⟩ | ⟨n, e'⟩
    · exact r.fr _ x b e s'
    · exact r.fr i y b e' s'

/-! ### statements -/
def OutOk (E : Fx) (S0 F : Hp) (D : Ends) : Out → Prop
  | .nx env' => ∀ (σ' : L2.St) (S' H' : Hp), RelS E S0 F env' σ' S' H' → D.nx σ' H'
  | .rt x => ∀ (v : V) (S' H' : Hp), Grow E.T S0 F S' H' → Dn E S' v x → D.rt v H'
def tS (E : Fx) (g : DE → Option Out) : TS := fun D σ H => ∃ S0 F S env o, RelS E S0 F env σ S H ∧ g env = some o ∧ OutOk E S0 F D o
variable {g g1 g2 : DE → Option Out} {t : DE → Option Bool} {st : Stmt} {rest : List Stmt}
def sNil : DE → Option Out := fun env => some (.nx env)
def sSeq (g1 g2 : DE → Option Out) : DE → Option Out := fun env => (g1 env).bind fun o => match o with
  | .nx e => g2 e
  | .rt x => some (.rt x)
theorem sd_nil : PSs X [] (tS E sNil) := pss_nil.imp fun D σ H ⟨S0, F, S, env, o, rel, e, k⟩ => by
  cases e
  exact k σ S H rel
theorem sd_cons (h1 : PS X st (tS E g1)) (h2 : PSs X rest (tS E g2)) : PSs X (st :: rest) (tS E (sSeq g1 g2)) :=
  (pss_cons h1 h2).imp fun D σ H ⟨S0, F, S, env, o, rel, e, k⟩ => by
    unfold sSeq at e
    obtain ⟨o1, e1, e⟩ := Option.bind_eq_some_iff.mp e
    refine ⟨S0, F, S, env, o1, rel, e1, ?_⟩
    cases o1 with
    | nx env1 => exact fun σ' S' H' r => ⟨S0, F, S', env1, o, r, e, k⟩
    | rt x => cases e; exact k
theorem sd_one (h1 : PS X st (tS E g1)) : PSs X [st] (tS E g1) := pss_one h1
/-- names forgotten -/
def sClr (vs : List Nat) (g : DE → Option Out) : DE → Option Out := fun env => (g env).map fun o => match o with
  | .nx e => .nx (wipeD e vs)
  | .rt x => .rt x
theorem sd_clr (vs : List Nat) (h : PSs X rest (tS E g)) : PSs X rest (tS E (sClr vs g)) := h.imp fun D σ H ⟨S0, F, S, env, o, rel, e, k⟩ => by
  unfold sClr at e
  obtain ⟨o1, e1, rfl⟩ := Option.map_eq_some_iff.mp e
  refine ⟨S0, F, S, env, o1, rel, e1, ?_⟩
  cases o1 with
  | nx env1 => exact fun σ' S' H' r => k σ' S' H' (r.forget vs)
  | rt x => exact k
def sNever : DE → Option Out := fun _ => none
theorem sd_never : PSs X rest (tS E sNever) := pss_never.imp fun D σ H ⟨S0, F, S, env, o, rel, e, k⟩ => by cases e
def sExpr (f : DE → Option DV) : DE → Option Out := fun env => (f env).map fun _ => .nx env
theorem sd_expr (he : PE X a (tE E m f)) (hs : swapsWith a none pos.line X.env = pure false := by rfl) : PS X (.Expr a pos) (tS E (sExpr f)) :=
  (ps_expr he hs).imp fun D σ H ⟨S0, F, S, env, o, rel, e, k⟩ => by
    unfold sExpr at e
    obtain ⟨x, ex, rfl⟩ := Option.map_eq_some_iff.mp e
    exact ⟨S, env, x, rel.rel, ex, fun v S' H' g hv => k σ S' H' (rel.grow g)⟩
def sRet (f : DE → Option DV) : DE → Option Out := fun env => (f env).map .rt
theorem sd_ret (he : PE X a (tE E .val f)) : PS X (.Return (some a) pos) (tS E (sRet f)) :=
  (ps_ret he).imp fun D σ H ⟨S0, F, S, env, o, rel, e, k⟩ => by
    unfold sRet at e
    obtain ⟨x, ex, rfl⟩ := Option.map_eq_some_iff.mp e
    exact ⟨S, env, x, rel.rel, ex, fun v S' H' g hv => k v S' H' (rel.gr.trans g) hv⟩
def sSet (b : Bool) (i : Nat) (f : DE → Option DV) : DE → Option Out := fun env => (f env).map fun x => .nx (env.set i (some (b, x)))
theorem tS_set (b : Bool) (i : Nat) {D : Ends} {H : Hp} (h : tS E (sSet b i f) D σ H) : tAsg (tE E (md b) f) (gName i) D σ H := by
  obtain ⟨S0, F, S, env, o, rel, e, k⟩ := h
  unfold sSet at e
  obtain ⟨x, ex, rfl⟩ := Option.map_eq_some_iff.mp e
  exact ⟨S, env, x, rel.rel, ex, fun v S' H' g hv => k _ S' H' ((rel.grow g).put b i hv rel.rel.old fun a => rel.gr.free)⟩
theorem sd_set (b : Bool) {i : Nat} {pos' : Pos} (hN : X.N.Nodup) (hi : X.N[i]? = some x) (hx : Loc X.env.scope x) (he : PE X a (tE E (md b) f)) (hf : X.fn x = true ∨ X.env.scope.names.lookup x = some .local)
    (hs : swapsWith a (some (.Name x pos')) pos.line X.env = pure false := by rfl) : PS X (.Assign [.Name x pos'] a pos) (tS E (sSet b i f)) :=
  (ps_set hN hi hx he hs hf).imp fun D σ H h => tS_set b i h
/-- name = [..] on one line -/
theorem sd_setLc (b : Bool) {i : Nat} {y : Str} {py : Pos} {elt iter : Expr} {ifs : List Expr} {scope : Scope} {own : List (Str × Nat)} {is : List Nat} {fi : DE → Option (List PyData)} {gt : PyData → DE → Option DE} {tt : DE → Option Bool} {te : DE → Option DV} {spos : Pos}
    (hc : X.calm = true) (hN : X.N.Nodup) (hy : X.N[i]? = some y) (hyl : X.env.scope.names.lookup y = some .local)
    (hsw : swapsWith (.ListComp elt [⟨tg, iter, ifs, 0⟩] scope pos) (some (.Name y py)) spos.line X.env = pure true) (hi : PI X tg iter (tI E fi)) (ok : BlkOk X.N X.env.scope scope own) (his : ∀ i ∈ is, i ∈ own.map (·.2))
    (hg : ∀ (s : Shared) (H : Hp) (C : Addr) (cl : List (Str × Addr)) (fp : List Addr), PG (X.blk s H scope (compEnvC scope cl C X.env) fp) tg (tG E is gt)) (ht : ∀ (s : Shared) (H : Hp) (C : Addr) (cl : List (Str × Addr)) (fp : List Addr), PTs (X.blk s H scope (compEnvC scope cl C X.env) fp) ifs (tT E tt))
    (he : ∀ (s : Shared) (H : Hp) (C : Addr) (cl : List (Str × Addr)) (fp : List Addr), PE (X.blk s H scope (compEnvC scope cl C X.env) fp) elt (tE E .val te)) (hs : ∀ x, foldedSetIterable iter X.env x = pure x := by intro _; rfl) :
    PS X (.Assign [.Name y py] (.ListComp elt [⟨tg, iter, ifs, 0⟩] scope pos) spos) (tS E (sSet b i (eLc (own.map (·.2)) fi gt tt te))) :=
  (ps_setLc hc hN hy hyl hsw hi ok hg ht he hs).imp fun D σ H h => by
    have h := tS_set b i h
    show tLc _ _ _ _ _ σ H _
    refine tE_lc his ?_
    cases b with
    | true => exact h
    | false => exact tE_freeze h
def sIf (t : DE → Option Bool) (g1 g2 : DE → Option Out) : DE → Option Out := fun env => (t env).bind fun b => if b = true then g1 env else g2 env
theorem sd_if {r1 r2 : List Stmt} (hc : PT X c (tT E t)) (ha : PSs X r1 (tS E g1)) (hb : PSs X r2 (tS E g2)) : PS X (.If c r1 r2 pos) (tS E (sIf t g1 g2)) :=
  (ps_if hc ha hb).imp fun D σ H ⟨S0, F, S, env, o, rel, e, k⟩ => by
    unfold sIf at e
    obtain ⟨b, eb, e⟩ := Option.bind_eq_some_iff.mp e
    refine ⟨S, env, b, rel.rel, eb, fun S1 H1 g => ?_⟩
    cases b with
    | true =>
      rw [if_pos rfl] at e
      show ite _ _ _
      rw [if_pos rfl]
      exact ⟨S0, F, S1, env, o, rel.grow g, e, k⟩
    | false =>
      rw [if_neg Bool.false_ne_true] at e
      show ite _ _ _
      rw [if_neg Bool.false_ne_true]
      exact ⟨S0, F, S1, env, o, rel.grow g, e, k⟩
/-- own data under another name, for good: x = y -/
def sFrz (i j : Nat) : DE → Option Out := fun env => match env[j]? with
  | some (some (true, x)) => some (.nx ((env.set j (some (false, x))).set i (some (false, x))))
  | _ => none
theorem sd_frz {i j : Nat} {y : Str} {pos' : Pos} (hN : X.N.Nodup) (hi : X.N[i]? = some x) (hx : Loc X.env.scope x) (hj : X.N[j]? = some y) (hv : Vis X.env.scope y) (hf : X.fn x = true ∨ X.env.scope.names.lookup x = some .local)
    (hs : swapsWith (.Name y p) (some (.Name x pos')) pos.line X.env = pure false := by rfl) (hd : (y == ("__debug__" : Str)) = false := by decide) (hcd : (y == ("__classdict__" : Str)) = false := by decide) : PS X (.Assign [.Name x pos'] (.Name y p) pos) (tS E (sFrz i j)) :=
  (ps_set hN hi hx (pe_var hj hv hd hcd) hs hf).imp fun D σ H ⟨S0, F, S, env, o, rel, e, k⟩ => by
    unfold sFrz at e
    split at e
    · rename_i x e1
      cases e
      obtain ⟨v, S', s1, hD, r, _⟩ := rel.freeze e1
      exact ⟨v, s1, k _ S' H (r.put false i hD (H0 := H) r.rel.old fun a => r.gr.free)⟩
    · cases e
/-- return of own data -/
def sRetO (j : Nat) : DE → Option Out := fun env => match env[j]? with
  | some (some (true, x)) => some (.rt x)
  | _ => none
theorem sd_retO {j : Nat} {y : Str} (hj : X.N[j]? = some y) (hv : Vis X.env.scope y) (hd : (y == ("__debug__" : Str)) = false := by decide) (hcd : (y == ("__classdict__" : Str)) = false := by decide) : PS X (.Return (some (.Name y p)) pos) (tS E (sRetO j)) :=
  (ps_ret (pe_var hj hv hd hcd)).imp fun D σ H ⟨S0, F, S, env, o, rel, e, k⟩ => by
    unfold sRetO at e
    split at e
    · rename_i x e1
      cases e
      obtain ⟨v, S', s1, hD, r, gg⟩ := rel.freeze e1
      exact ⟨v, s1, k v S' H gg hD⟩
    · cases e
/-! targets of several names -/
def sTup (is : List Nat) (f : DE → Option DV) : DE → Option Out := fun env => (f env).bind fun x => match x with
  | .dat (.tuple ds) => if ds.length = is.length then some (.nx (setAll env is ds)) else none
  | _ => none
theorem sd_tup {es : List Expr} {k : Nat} {is : List Nat} {tp : Pos} (hc : X.calm = true) (he : PE X a (tE E .val f)) (h : PGs X es (tGs E is)) (hn : (assignEach es X.env).length = is.length := by rfl) (hst : (assignEach es X.env).findIdx? (·.1) = none := by rfl)
    (hs : swapsWithSole [.Tuple es k tp] a pos.line X.env = pure false := by rfl) (hw : swappedStores [.Tuple es k tp] a X.env = pure none := by rfl)
    (h1 : (assignEach [.Tuple es k tp] X.env).map (·.2) = [assign (.Tuple es k tp) X.env] := by rfl) : PS X (.Assign [.Tuple es k tp] a pos) (tS E (sTup is f)) :=
  (ps_asg he (gd_tup hc h hn hst) hs hw h1).imp fun D σ H ⟨S0, F, S, env, o, rel, e, k⟩ => by
    unfold sTup at e
    obtain ⟨dx, ex, e⟩ := Option.bind_eq_some_iff.mp e
    split at e
    · split at e
      · rename_i hl
        cases e
        refine ⟨S, env, _, rel.rel, ex, fun v S' H' g hv => ⟨S', env, _, _, rel.rel.grow g, hv, by unfold gtT; exact if_pos hl, fun σ' st r => k σ' S' H' ((rel.grow g).step st r)⟩⟩
      · cases e
    · cases e
def sPar (b1 : Bool) (i : Nat) (b2 : Bool) (j : Nat) (fa : DE → Option (List DV)) : DE → Option Out := fun env => (fa env).bind fun xs => match xs with
  | [x, y] => some (.nx ((env.set i (some (b1, x))).set j (some (b2, y))))
  | _ => none
variable {fa : DE → Option (List DV)}
theorem RelS.put2 (b1 b2 : Bool) {H0 : Hp} (r : RelS E S0 F env σ S H) (i j : Nat) {v w : V} {x y : DV} (hv : VOk E (md b1) S H0 H v x) (hw : VOk E (md b2) S H0 H w y) (ol : Old H0 env σ) (fo : ∀ a, H0 a = none → F a = none) (hb : (b1 && b2) = false) (hij : i ≠ j) :
    RelS E S0 F ((env.set i (some (b1, x))).set j (some (b2, y))) ((σ.set i (some v)).set j (some w)) S H := by
  cases b1 with
  | false => exact (r.put false i hv ol fo).put b2 j hw (ol.set i x v) fo
  | true =>
    cases b2 with
    | true => cases hb
    | false =>
      rw [List.set_comm _ _ hij, List.set_comm (some v) (some w) hij]
      exact (r.put false j hw ol fo).put true i hv (ol.set j y w) fo
theorem sd_par (b1 b2 : Bool) {i j : Nat} {x y : Str} {px py pt : Pos} {kt k2 pt2} (hb : (b1 && b2) = false) (hc : X.calm = true) (hN : X.N.Nodup) (hi : X.N[i]? = some x) (hj : X.N[j]? = some y) (hij : i ≠ j)
    (hx : X.env.scope.names.lookup x = some .local) (hy : X.env.scope.names.lookup y = some .local) (ha : PA X [a, b] (tA E [md b1, md b2] fa))
    (hw : swappedStores [.Tuple [.Name x px, .Name y py] kt pt] (.Tuple [a, b] k2 pt2) X.env = pure (some [x, y]))
    (hs : swapsWithSole [.Tuple [.Name x px, .Name y py] kt pt] (.Tuple [a, b] k2 pt2) pos.line X.env = pure false := by rfl) :
    PS X (.Assign [.Tuple [.Name x px, .Name y py] kt pt] (.Tuple [a, b] k2 pt2) pos) (tS E (sPar b1 i b2 j fa)) :=
  (ps_par hc hN hi hj hij hx hy ha hw hs).imp fun D σ H ⟨S0, F, S, env, o, rel, e, k⟩ => by
    unfold sPar at e
    obtain ⟨xs, ex, e⟩ := Option.bind_eq_some_iff.mp e
    split at e
    · cases e
      refine ⟨S, env, _, rel.rel, ex, fun vs S' H' g hv => ?_⟩
      cases hv with
      | cons h1 hv =>
        cases hv with
        | cons h2 hv =>
          cases hv
          exact ⟨_, _, rfl, k _ S' H' ((rel.grow g).put2 b1 b2 i j h1 h2 rel.rel.old (fun a => rel.gr.free) hb hij)⟩
    · cases e
/-- three names: the middle one own -/
def sPar3 (i j l : Nat) (fa : DE → Option (List DV)) : DE → Option Out := fun env => (fa env).bind fun xs => match xs with
  | [x, y, z] => some (.nx (((env.set i (some (false, x))).set j (some (true, y))).set l (some (false, z))))
  | _ => none
theorem sd_par3 {i j l : Nat} {x y z : Str} {px py pz pt : Pos} {kt k2 pt2} (hc : X.calm = true) (hN : X.N.Nodup) (hi : X.N[i]? = some x) (hj : X.N[j]? = some y) (hl : X.N[l]? = some z) (hij : i ≠ j) (hil : i ≠ l) (hjl : j ≠ l)
    (hx : X.env.scope.names.lookup x = some .local) (hy : X.env.scope.names.lookup y = some .local) (hz : X.env.scope.names.lookup z = some .local) (ha : PA X [a, b, c] (tA E [.val, .own, .val] fa))
    (hw : swappedStores [.Tuple [.Name x px, .Name y py, .Name z pz] kt pt] (.Tuple [a, b, c] k2 pt2) X.env = pure (some [x, y, z]))
    (hs : swapsWithSole [.Tuple [.Name x px, .Name y py, .Name z pz] kt pt] (.Tuple [a, b, c] k2 pt2) pos.line X.env = pure false := by rfl) :
    PS X (.Assign [.Tuple [.Name x px, .Name y py, .Name z pz] kt pt] (.Tuple [a, b, c] k2 pt2) pos) (tS E (sPar3 i j l fa)) :=
  (ps_par3 hc hN hi hj hl hij hil hjl hx hy hz ha hw hs).imp fun D σ H ⟨S0, F, S, env, o, rel, e, k⟩ => by
    unfold sPar3 at e
    obtain ⟨xs, ex, e⟩ := Option.bind_eq_some_iff.mp e
    split at e
    · cases e
      refine ⟨S, env, _, rel.rel, ex, fun vs S' H' g hv => ?_⟩
      cases hv with
      | cons h1 hv =>
        cases hv with
        | cons h2 hv =>
          cases hv with
          | cons h3 hv =>
            cases hv
            refine ⟨_, _, _, rfl, k _ S' H' ?_⟩
            have r1 := (rel.grow g).put false i h1 rel.rel.old fun a => rel.gr.free
            exact r1.put2 true false j l h2 h3 (rel.rel.old.set i _ _) (fun a => rel.gr.free) rfl hjl
    · cases e
/-! own data changed -/
def sApp (i : Nat) (f : DE → Option DV) : DE → Option Out := fun env => (f env).bind fun y => match env[i]?, y with
  | some (some (true, .dat (.list ds))), .dat d => if ds.length < 100000 then some (.nx (env.set i (some (true, .dat (.list (ds ++ [d])))))) else none
  | _, _ => none
theorem sd_app {i : Nat} {np apos cpos : Pos} (hi : X.N[i]? = some x) (hv : Vis X.env.scope x) (he : PE X a (tE E .val f)) (hd : (x == ("__debug__" : Str)) = false := by decide) (hcd : (x == ("__classdict__" : Str)) = false := by decide)
    (hbase : attributeBase (.Name x np) "append" X.env (eval (.Name x np) X.env) = eval (.Name x np) X.env := by rfl)
    (hfew : ((backTo cpos (starEach [a] X.env)).all (fun x => !x.1) && (backToKw cpos (keywordEach [] X.env)).all (fun x => x.1.isSome)
      && decide ([a].length + ([] : List Keyword).length + (if ([] : List Keyword).isEmpty then 0 else 1) < 30)) = true := by rfl)
    (hline : (apos.endLine == cpos.line) = true := by rfl) (hs : starEach [a] X.env = (false, eval a X.env) :: starEach [] X.env := by rfl) (hplain : (backTo cpos (starEach ([] : List Expr) X.env)).any (·.1) = false := by rfl)
    (hsw : swapsWith (.Call (.Attribute (.Name x np) "append" apos) [a] [] cpos) none pos.line X.env = pure false := by rfl) : PS X (.Expr (.Call (.Attribute (.Name x np) "append" apos) [a] [] cpos) pos) (tS E (sApp i f)) :=
  (ps_expr (pe_bm PySem.F.plainAttrs_list PySem.F.slot_list_append PySem.F.type_list_append mt_append (pe_var hi hv hd hcd) (pa_cons he pa_nil hs) hbase hfew hline hs hplain) hsw).imp fun D σ H ⟨S0, F, S, env, o, rel, e, k⟩ => by
    unfold sApp at e
    obtain ⟨y, ey, e⟩ := Option.bind_eq_some_iff.mp e
    split at e
    · split at e
      · rename_i ds d e1 hz
        cases e
        obtain ⟨p, o, h1, h2, h3, vs, rfl, h4⟩ := rel.rel.own i _ e1
        refine ⟨.ref p, h1, .inl ⟨rfl, vs, SqL.of h3⟩, S, env, _, rel.rel, ey, fun v S1 H1 g1 hv => ?_⟩
        have r1 := rel.grow g1
        obtain ⟨p', o', s1, s2, s3, vs', rfl, s4⟩ := r1.rel.own i _ e1
        rw [h1] at s1
        cases s1
        refine ⟨p, vs', v, rfl, rfl, s3, ?_, k σ S1 _ (r1.write e1 h1 ⟨vs' ++ [v], rfl, s4.append (.cons hv .nil)⟩)⟩
        rw [s4.length]
        have := small (n := ds.length + 1) (by omega)
        omega
      · cases e
    · cases e
/-- d[k] = v of an own dict -/
def sPut (i : Nat) (fv fk : DE → Option DV) : DE → Option Out := fun env => (fv env).bind fun y => (fk env).bind fun z => (keyT z).bind fun key => match env[i]?, y with
  | some (some (true, .dct kvs)), .dat d => if kvs.length ≤ 100000 then some (.nx (env.set i (some (true, .dct (dPut kvs key d))))) else none
  | _, _ => none
def tPutD (P : Program) (w : World) : TSet := fun o y v H Q => ∃ S p ob xs kvs key d, o = .ref p ∧ (p == sysModules) = false ∧ H p = some (dctO P w p ob xs) ∧ Sub S H ∧ DPairs S xs kvs ∧ isKey key = true ∧ Dq S y key.data ∧ Dq S v d ∧ kvs.length ≤ 100000 ∧
  ∀ ob' xs', DPairs S xs' (dPut kvs key d) → Q (upd H p (dctO P w p ob' xs'))
theorem set_putD {X : Cx} {k : Nat} (hr : Room k X.A) : PSet X (tPutD X.prog X.w) := by
  intro pins s σ H o i v ov iv u Q I ro ri rv h
  obtain ⟨S, p, ob, xs, kvs, key, d, rfl, h0, hH, sh, hp, hk, hi, hv, hz, q⟩ := h
  obtain ⟨ia, rfl⟩ := key_ref hi hk
  cases ro
  cases ri
  have hm := dict_of I hH (hp.sub sh)
  refine wpAny_setItem_heap (hsz := by rw [hp.length]; exact small hz) (room_d hr) (is_key I (Dq.sub sh _ _ hi) hk) hm fun h' hm' hs => ?_
  obtain ⟨ob', ok⟩ := dctO_ok (H := upd H p (.ext fun _ => True)) hm'
  have he : ∃ q, h'.get? p = some q := let ⟨q, _, _, hq, _⟩ := hm'; ⟨q, hq⟩
  obtain ⟨ob', ok⟩ : ∃ ob', ObjOk X.prog X.w (upd H p (dctO X.prog X.w p ob' (storedH xs key ia u))) h' p (dctO X.prog X.w p ob' (storedH xs key ia u)) := by
    exact ⟨ob', ok⟩
  exact ⟨_, I.write (x := p) (e := p) (t' := _) (by rw [hH]; trivial) (.inl rfl) (fun b q hb z => (hs.2 b hb).trans z) he ok, q ob' _ (hp.put hk hi rv hv)⟩
theorem sd_put {fv fk : DE → Option DV} {i : Nat} {np p' : Pos} {value : Expr} (hr : Room k X.A) (hi : X.N[i]? = some x) (hv : Vis X.env.scope x) (hval : PE X value (tE (fx X T) .val fv)) (hkey : PE X b (tE (fx X T) .val fk)) (hd : (x == ("__debug__" : Str)) = false := by decide) (hcd : (x == ("__classdict__" : Str)) = false := by decide)
    (ha : ∀ v, assign (.Subscript (.Name x np) b p') X.env v = (do
      let ov ← holding [v] (eval (.Name x np) X.env)
      let iv ← holding [v, ov] (eval b X.env)
      standAt p'
      holding [v, ov, iv] (setItem ov iv v)
      release [v, ov, iv] []) := by intro _; rfl)
    (hs : swapsWithSole [.Subscript (.Name x np) b p'] value pos.line X.env = pure false := by rfl) (hw : swappedStores [.Subscript (.Name x np) b p'] value X.env = pure none := by rfl)
    (h1 : (assignEach [.Subscript (.Name x np) b p'] X.env).map (·.2) = [assign (.Subscript (.Name x np) b p') X.env] := by rfl) : PS X (.Assign [.Subscript (.Name x np) b p'] value pos) (tS (fx X T) (sPut i fv fk)) :=
  (ps_asg hval (pg_sub (pe_var hi hv hd hcd) hkey (set_putD hr) ha) hs hw h1).imp fun D σ H ⟨S0, F, S, env, o, rel, e, kk⟩ => by
    unfold sPut at e
    obtain ⟨y, ey, e⟩ := Option.bind_eq_some_iff.mp e
    obtain ⟨z, ez, e⟩ := Option.bind_eq_some_iff.mp e
    obtain ⟨key, ek, e9⟩ := Option.bind_eq_some_iff.mp e
    obtain ⟨rfl, hkey⟩ := keyT_some ek
    clear e
    split at e9
    · split at e9
      · rename_i kvs d e1 hz
        cases e9
        refine ⟨S, env, _, rel.rel, ey, fun v S1 H1 g1 hv => ?_⟩
        have r1 := rel.grow g1
        obtain ⟨p, o, s1, s2, s3, s4⟩ := r1.rel.own i _ e1
        refine ⟨.ref p, s1, S1, env, _, r1.rel, ez, fun w S2 H2 g2 hw => ?_⟩
        have r2 := r1.grow g2
        obtain ⟨p', o', t1, t2, t3, t0, ob, xs, rfl, t4⟩ := r2.rel.own i _ e1
        rw [s1] at t1
        cases t1
        refine ⟨S2, p, ob, xs, kvs, key, d, rfl, t0, t3, g2.sh, t4, hkey, hw, Dq.sub g2.ss _ _ hv, hz, fun ob' xs' hx => kk σ S2 _ (r2.write e1 s1 ⟨t0, ob', xs', rfl, hx⟩)⟩
      · cases e9
    · cases e9

/-! ### loops -/
def forGo (gt : PyData → DE → Option DE) (body : DE → Option Out) : List PyData → DE → Option Out
  | [], env => some (.nx env)
  | d :: ds, env => (gt d env).bind fun e1 => (body e1).bind fun o => match o with
    | .nx e2 => forGo gt body ds e2
    | .rt x => some (.rt x)
def sFor (it : DE → Option (List PyData)) (gt : PyData → DE → Option DE) (body : DE → Option Out) : DE → Option Out := fun env => (it env).bind fun ds => forGo gt body ds env
theorem OutOk.unbase {D : Ends} {o : Out} (r : Grow E.T S0 F S H) (h : OutOk E S0 F D o) : OutOk E S F D o := by
  cases o with
  | nx env' => exact fun σ' S' H' r' => h σ' S' H' ⟨r'.rel, r.unbase r'.gr, r'.fr⟩
  | rt x => exact fun v S' H' g hv => h v S' H' (r.unbase g) hv
theorem sd_for {iter : Expr} {body : List Stmt} {fi : DE → Option (List PyData)} {is : List Nat} {gt : PyData → DE → Option DE} (hp : PassesOwn (model X.prog X.w) X.A X.env X.xe) (hc : X.calm = true) (hi : PI X tg iter (tI E fi)) (hg : PG X tg (tG E is gt)) (hb : PSs X body (tS E g))
    (hs : ∀ x, foldedSetIterable iter X.env x = pure x := by intro _; rfl) : PS X (.For tg iter body [] pos) (tS E (sFor fi gt g)) :=
  (ps_for hp hc hi hg hb hs).imp fun D σ H ⟨S0, F, S, env, o, rel, e, k⟩ => by
    unfold sFor at e
    obtain ⟨ds, eds, e⟩ := Option.bind_eq_some_iff.mp e
    refine ⟨S, env, ds, rel.rel, eds, fun J S1 H1 g1 it => ?_⟩
    have dr : ∀ {i : Nat} {d : PyData}, ds[i]? = some d → ds.drop i = d :: ds.drop (i + 1) := fun {i d} e => by
      obtain ⟨h1, h2⟩ := List.getElem?_eq_some_iff.mp e
      rw [List.drop_eq_getElem_cons h1, h2]
    refine ⟨fun i m σ3 H3 => m = ds.length - i ∧ i ≤ ds.length ∧ ∃ S3 env3, Sub S1 S3 ∧ RelS E S0 F env3 σ3 S3 H3 ∧ forGo gt g (ds.drop i) env3 = some o,
      ⟨ds.length, by rw [Nat.sub_zero], Nat.zero_le _, S1, env, Sub.refl _, rel.grow g1, e⟩, ?_⟩
    rintro i m σ3 H3 ⟨rfl, hle, S3, env3, ss3, r3, hgo⟩
    have it3 := it S3 H3 ss3 r3.rel.sh r3.rel.tb i
    by_cases hlt : i < ds.length
    · have ed : ds[i]? = some ds[i] := List.getElem?_eq_getElem hlt
      obtain ⟨go, yl⟩ := it3.1 _ ed
      refine .inr ⟨go, fun σ' H' => ∃ S3 env3, Sub S1 S3 ∧ RelS E S0 F env3 σ' S3 H' ∧ forGo gt g (ds.drop (i + 1)) env3 = some o,
        fun σ' H' z => ⟨ds.length - (i + 1), by omega, rfl, by omega, z⟩, fun x H4 y => ?_⟩
      obtain ⟨S4, g4, hx⟩ := yl x H4 y
      rw [dr ed] at hgo
      unfold forGo at hgo
      obtain ⟨e1, ege, hgo⟩ := Option.bind_eq_some_iff.mp hgo
      obtain ⟨o1, eo, hgo⟩ := Option.bind_eq_some_iff.mp hgo
      have r4 := r3.grow g4
      refine ⟨S4, env3, ds[i], e1, r4.rel, hx, ege, fun σ' st r5 => ?_⟩
      have r6 := r4.step st r5
      refine ⟨S4, F, S4, e1, o1, r6.base, eo, ?_⟩
      cases o1 with
      | nx env2 => exact fun σ'' S'' H'' r7 => ⟨S'', env2, (ss3.trans g4.ss).trans r7.gr.ss, r6.unbase r7, hgo⟩
      | rt x => cases hgo; exact fun v S' H' gg hv => k v S' H' (r6.gr.unbase gg) hv
    · have ei : i = ds.length := by omega
      subst ei
      rw [List.drop_length] at hgo
      cases hgo
      exact .inl ⟨it3.2 (Nat.le_refl _), k σ3 S3 H3 r3⟩
def sWhile (t : DE → Option Bool) (g : DE → Option Out) : Nat → DE → Option Out
  | 0, _ => none
  | n + 1, env => (t env).bind fun b => if b = true then (g env).bind fun o => match o with
      | .nx e => sWhile t g n e
      | .rt x => some (.rt x)
    else some (.nx env)
theorem sd_while (n : Nat) {body : List Stmt} (hp : PassesOwn (model X.prog X.w) X.A X.env X.xe) (hc : PT X c (tT E t)) (hb : PSs X body (tS E g)) : PS X (.While c body [] pos) (tS E (sWhile t g n)) :=
  (ps_while hp hc hb).imp fun D σ H ⟨S0, F, S, env, o, rel, e, k⟩ => by
    refine ⟨fun m σ3 H3 => ∃ S3 env3, RelS E S0 F env3 σ3 S3 H3 ∧ sWhile t g m env3 = some o, ⟨n, S, env, rel, e⟩, ?_⟩
    rintro m σ3 H3 ⟨S3, env3, r3, e3⟩
    cases m with
    | zero => cases e3
    | succ m =>
      unfold sWhile at e3
      obtain ⟨b, eb, e3⟩ := Option.bind_eq_some_iff.mp e3
      refine ⟨S3, env3, b, r3.rel, eb, fun S4 H4 g4 => ?_⟩
      cases b with
      | true =>
        rw [if_pos rfl] at e3
        show ite _ _ _
        rw [if_pos rfl]
        obtain ⟨o1, eo, e3⟩ := Option.bind_eq_some_iff.mp e3
        refine ⟨fun σ' H' => ∃ S3 env3, RelS E S0 F env3 σ' S3 H' ∧ sWhile t g m env3 = some o, fun σ' H' z => ⟨m, Nat.lt_succ_self _, z⟩, S0, F, S4, env3, o1, r3.grow g4, eo, ?_⟩
        cases o1 with
        | nx env2 => exact fun σ' S' H' r => ⟨S', env2, r, e3⟩
        | rt x => cases e3; exact k
      | false =>
        rw [if_neg Bool.false_ne_true] at e3
        show ite _ _ _
        rw [if_neg Bool.false_ne_true]
        cases e3
        exact k σ3 S4 H4 (r3.grow g4)

/-! ### defs -/
inductive DnAll (E : Fx) (S : Hp) : List V → List DV → Prop
  | nil : DnAll E S [] []
  | cons {v vs x xs} : Dn E S v x → DnAll E S vs xs → DnAll E S (v :: vs) (x :: xs)
/-- the promise of a def: the data F gives -/
def spD (E : Fx) (n : Nat) (F : List DV → Option DV) : Sp := fun vs H Q _ => ∃ S xs x, Sub S H ∧ (∀ P ∈ E.T, GxR.TabG H P ∧ S P = none) ∧ DnAll E S vs xs ∧ xs.length = n ∧ F xs = some x ∧ ∀ v S' H', Grow E.T S H S' H' → Dn E S' v x → Q v H'
def startD (n : Nat) (xs : List DV) : DE := xs.map (fun x => some (false, x)) ++ List.replicate (n - xs.length) none
def fnF (n : Nat) (g : DE → Option Out) (xs : List DV) : Option DV := (g (startD n xs)).map fun o => match o with
  | .rt x => x
  | .nx _ => .dat .none
theorem DnAll.length {vs : List V} {xs : List DV} (h : DnAll E S vs xs) : vs.length = xs.length := by
  induction h with
  | nil => rfl
  | cons _ _ ih => exact congrArg Nat.succ ih
theorem DnAll.get {vs : List V} {xs : List DV} (h : DnAll E S vs xs) : ∀ {i : Nat} {x : DV}, xs[i]? = some x → ∃ v, vs[i]? = some v ∧ Dn E S v x := by
  induction h with
  | nil => intro i x e; simp at e
  | @cons v vs x xs r t ih =>
    intro i y e
    cases i with
    | zero => simp at e; subst e; exact ⟨v, rfl, r⟩
    | succ i => exact ih (by simpa using e)
theorem start_rel {N : List Str} {vs : List V} {xs : List DV} (sh : Sub S H) (tb : ∀ P ∈ E.T, GxR.TabG H P ∧ S P = none) (h : DnAll E S vs xs) : RelS E S H (startD N.length xs) (L2.start N vs) S H := by
  have key : ∀ (i : Nat) (p : Bool × DV), (startD N.length xs)[i]? = some (some p) → ∃ x, xs[i]? = some x ∧ p = (false, x) := fun i p e => by
    unfold startD at e
    rw [List.getElem?_append] at e
    split at e
    · rw [List.getElem?_map] at e
      obtain ⟨x, e1, e2⟩ := Option.map_eq_some_iff.mp e
      cases e2
      exact ⟨x, e1, rfl⟩
    · obtain ⟨h1, h2⟩ := List.getElem?_eq_some_iff.mp e
      rw [List.getElem_replicate] at h2
      cases h2
  refine ⟨⟨?_, sh, tb, fun i x e => ?_, fun i x e => ?_, fun i j x y a e1 _ _ _ => ?_⟩, Grow.refl sh fun P h => (tb P h).1, fun i x a e _ => ?_⟩
  · unfold startD L2.start
    rw [List.length_append, List.length_append, List.length_map, List.length_map, List.length_replicate, List.length_replicate, h.length]
  · obtain ⟨y, e1, e2⟩ := key i _ e
    cases e2
    obtain ⟨v, h1, h2⟩ := h.get e1
    refine ⟨v, ?_, h2⟩
    unfold L2.start
    have := (List.getElem?_eq_some_iff.mp h1).1
    rw [List.getElem?_append_left (by rw [List.length_map]; exact this), List.getElem?_map, h1]
    rfl
  · obtain ⟨y, _, e2⟩ := key i _ e; cases e2
  · obtain ⟨y, _, e2⟩ := key i _ e1; cases e2
  · obtain ⟨y, _, e2⟩ := key i _ e; cases e2
theorem fn_body {N : List Str} {n : Nat} {g : DE → Option Out} (vs : List V) (H : Hp) (Q : VK) (Ex : XK) (h : spD E n (fnF N.length g) vs H Q Ex) : tS E g { nx := fun _ H' => Q .non H', rt := Q } (L2.start N vs) H := by
  obtain ⟨S, xs, x, sh, tb, hd, hl, e, q⟩ := h
  obtain ⟨o, eo, rfl⟩ := Option.map_eq_some_iff.mp (show (g (startD N.length xs)).map _ = some x from e)
  refine ⟨S, H, S, _, o, start_rel sh tb hd, eo, ?_⟩
  cases o with
  | nx env' => exact fun σ' S' H' r => q _ S' H' r.gr Dq.non
  | rt x => exact fun v S' H' g hv => q v S' H' g hv
theorem sp_len {n : Nat} {F : List DV → Option DV} (vs : List V) (H : Hp) (Q : VK) (Ex : XK) (h : spD E n F vs H Q Ex) : vs.length = n := by
  obtain ⟨S, xs, x, sh, tb, hd, hl, e, q⟩ := h
  rw [hd.length, hl]
def eCall (F : List DV → Option DV) (fa : DE → Option (List DV)) : DE → Option DV := fun env => (fa env).bind F
theorem vs_dn {S H0 H : Hp} : ∀ {n : Nat} {vs : List V} {xs : List DV}, VsOk E S H0 H (vals n) vs xs → DnAll E S vs xs ∧ xs.length = n
  | 0, _, _, h => by cases h; exact ⟨.nil, rfl⟩
  | n + 1, _, _, h => by
    cases h with
    | cons h1 h2 =>
      obtain ⟨a, b⟩ := vs_dn h2
      exact ⟨.cons h1 a, by rw [List.length_cons, b]⟩
theorem pd_call {n j : Nat} {F : List DV → Option DV} {es : List Expr} (cl : C8.Cal X.prog X.w X.K X.mg X.base k x (spD E n F) []) (hr : Room j X.A) (hk : k ≤ j) (hg : Gl X x) (ha : PA X (a :: es) (tA E (vals n) fa))
    (hdb : (x == ("__debug__" : Str)) = false := by decide) (he : starEach (a :: es) X.env = (false, eval a X.env) :: starEach es X.env := by rfl) (hpl : (backTo pos (starEach es X.env)).any (·.1) = false := by rfl) :
    PE X (.Call (.Name x p) (a :: es) [] pos) (tE E .val (eCall F fa)) :=
  (C8.pe_c cl hr hk hg ha hdb he hpl).imp fun σ H Q ⟨S, env, x, rel, e, q⟩ => by
    unfold eCall at e
    obtain ⟨xs, ex, e⟩ := Option.bind_eq_some_iff.mp e
    refine ⟨S, env, xs, rel, ex, fun vs S1 H1 g1 hv => ?_⟩
    obtain ⟨a, b⟩ := vs_dn hv
    have r1 := rel.grow g1
    refine ⟨S1, xs, x, r1.sh, r1.tb, by rw [List.append_nil]; exact a, b, e, fun v S' H' g hv' => q v S' H' (g1.trans g) hv'⟩
end
end FD
end

section
set_option Elab.async false
set_option linter.all false
set_option maxRecDepth 100000
set_option maxHeartbeats 4000000
/-! FD12: enumerate of a tuple. -/
namespace FD
open PySem PySem.Spec PyProof.Rows L2
theorem meets_enum1 {v : Value} {o : Obj} {H : Heap → Prop} (B : Begins v o H) :
    Meets (Builtin.«enumerate.__new__» ⟨[.type "enumerate", v], []⟩) (fun _ R s => H s.heap ∧
      R (.ok (.ret (.ref (s.heap.push o).objs.size))) { s with heap := (s.heap.push o).push { cls := .type "enumerate", data := .fields #[.none, .bool false, .ref s.heap.objs.size, rawInt 0, .none, .none] } }) :=
  .of_wp fun prog w A R s h => by
    obtain ⟨hp, g, d, tk, os⟩ := s; obtain ⟨h1, h⟩ := h
    have hsub := sub_enumerate
    have q1 : ∀ {A' : Around} {E : Value → Shared → Prop} {Q : Value → Shared → Prop}, Q (.ref hp.objs.size) ⟨hp.push o, g, d, tk, os⟩ → wpAny (model prog w) A' (pyIter v) Q E ⟨hp, g, d, tk, os⟩ :=
      fun q => B.iter prog w _ _ ⟨hp, g, d, tk, os⟩ _ h1 q
    wp_walk using q1
    refine wpAny_stack_any fun st => wpAny_pure ?_
    split
    · rename_i c _ _ _ _ _
      cases (c == Value.type "enumerate")
      · wp_walk using q1
        exact ⟨_, rfl, h⟩
      · wp_walk using q1
        exact ⟨_, rfl, h⟩
    · wp_walk using q1
      exact ⟨_, rfl, h⟩
theorem call_enum_tuple {prog : Program} {w : World} {A : Around} {E : Value → Shared → Prop} {s : Shared} {t : Addr} {items : Array Value} {Q : Value → Shared → Prop} (hL : s.heap.IsTuple t items)
    (h : ∀ h', IsEnum h' (s.heap.objs.size + 1) s.heap.objs.size 0 .none → h'.IsTupleIter s.heap.objs.size t 0 → h'.objs.size = s.heap.objs.size + 2 →
      (∀ b o, s.heap.get? b = some o → h'.get? b = some o) → Q (.ref (s.heap.objs.size + 1)) { s with heap := h' }) :
    wpAny (model prog w) A (call (.type "enumerate") [.ref t]) Q E s := by
  refine callType_new F.called_enumerate (by decide) (F.typeCall_enumerate_1 _) (F.newCall_enumerate_1 _) (fun obj => F.args_object_init_2 obj _) F.entry_enumerate_new
    (meets_enum1 (begins_tuple t items)) ⟨hL, ?_⟩
  have hz : (s.heap.push { cls := .type "tuple_iterator", data := .fields #[.ref t, .int 0 0] }).objs.size = s.heap.objs.size + 1 := Heap.size_push ..
  show _ ∧ _
  rw [hz]
  have he : IsEnum ((s.heap.push { cls := .type "tuple_iterator", data := .fields #[.ref t, .int 0 0] }).push
      { cls := .type "enumerate", data := .fields #[.none, .bool false, .ref s.heap.objs.size, rawInt 0, .none, .none] }) (s.heap.objs.size + 1) s.heap.objs.size 0 .none := by
    have := Heap.get?_push_size (s.heap.push { cls := .type "tuple_iterator", data := .fields #[.ref t, .int 0 0] })
      (o := { cls := .type "enumerate", data := .fields #[.none, .bool false, .ref s.heap.objs.size, rawInt 0, .none, .none] }) rfl
    rw [hz] at this; exact this
  refine ⟨⟨_, he, rfl⟩, h _ he ⟨_, Heap.get?_push_of_some _ (Heap.get?_push_size _ rfl), rfl, rfl⟩ (by rw [Heap.size_push, hz]) fun b o x => Heap.get?_push_of_some _ (Heap.get?_push_of_some _ x)⟩
/-- the tuple at a, each item in a new pair -/
def Itet (a : Addr) (xs : List V) : It :=
  ⟨fun i H => H a = some (.tup xs) ∧ i < xs.length, fun i H v H' => ∃ T x, v = .ref T ∧ H T = none ∧ H' = upd H T (.tup [.int (i : Nat), x]) ∧ xs[i]? = some x, fun i H => H a = some (.tup xs) ∧ xs.length ≤ i⟩
theorem turn_enumT {P : Program} {w : World} {K : PySem.W.Frag} {elts : List Expr} {kk : Nat} {tpos : Pos} (a e it : Addr) (xs : List V) (hai : a ≠ it) :
    Turn P w K (.Tuple elts kk tpos) (Itet a xs) [e, it] e (fun i h => (∃ old, IsEnum h e it ((i : Nat) : Int) old) ∧ h.IsTupleIter it a i ∧ e ≠ it ∧ e ≠ a) where
  mem := by simp
  obj := fun i h st b hb => by
    obtain ⟨⟨old, he⟩, ⟨o, ho, hc, hd⟩, _⟩ := st
    have e' : b = e ∨ b = it := by simpa using hb
    rcases e' with z | z
    · rw [z]; exact ⟨_, he, fun v q => nomatch q⟩
    · rw [z]; exact ⟨o, ho, fun v q => by rw [hd] at q; cases q⟩
  keep := fun i h h' st k => let ⟨⟨old, he⟩, hi, hne⟩ := st; ⟨⟨old, k e (by simp) _ he⟩, hi.at fun o q => k it (by simp) o q, hne⟩
  item := by
    intro X hP hw hK hc i pins s σ H E I hf st hg
    subst hP hw hK
    obtain ⟨⟨old, he⟩, hit, hne, hea⟩ := st
    obtain ⟨hH, hlt⟩ := hg
    have hx := List.getElem?_eq_getElem hlt
    obtain ⟨its, rv, p, hz⟩ := I.tuple (SqT.of hH)
    obtain ⟨u, hu, ru⟩ := rv.get hx
    have hel : e < s.heap.objs.size := Heap.lt_size he
    have hil : it < s.heap.objs.size := by obtain ⟨_, q, _⟩ := hit; exact Heap.lt_size q
    have hits : (its.toArray)[i]? = some u := by simpa using hu
    refine wpAny_pyNext_enum_itemD (Draws.tuple (prog := X.prog) (w := X.w) (A := X.A.in1) (I.ok.hd hc) it a hai its.toArray) he ⟨hit, p⟩ (by have := (Array.getElem?_eq_some_iff.mp hits).1; exact this) hne (by simp [hne, hea]) fun x h' tk hP ho hst' hT hsz hk => ?_
    have ex : x = u := by rw [hits] at hP; exact (Option.some.inj hP).symm
    subst ex
    refine ⟨_, rfl, wpAny_letOwnedTupleGo_enum (s := { s with heap := h', toks := tk + 1 }) ho fun h'' he' sb => ?_⟩
    have hT2 : h''.get? s.heap.objs.size = some { cls := .type "tuple", data := .seq #[.int i tk, x] } := (sb.2 _ (Nat.ne_of_gt hel)).trans hT
    have new : ObjOk X.prog X.w (upd H s.heap.objs.size (.tup [.int (i : Nat), xs[i]])) h'' s.heap.objs.size (.tup [.int (i : Nat), xs[i]]) :=
      ⟨by show 2 ≤ sizeLine; decide, [.int i tk, x], .cons ⟨_, rfl⟩ (.cons ru .nil), ⟨_, hT2, rfl, _, rfl⟩⟩
    have I1 : Inv X pins σ (upd H s.heap.objs.size (.tup [.int (i : Nat), xs[i]])) { s with heap := h'', toks := tk + 1 } :=
      I.turnedNew (ch := [e, it]) (fun b ob hb q => (sb.2 b (fun z => hb (by simp [z]))).trans (hk b ob (fun z => hb (by simp [z])) (fun z => hb (by simp [z])) q)) hf (Nat.le_refl _) new
    refine ⟨.ref s.heap.objs.size, _, I1, rfl, ⟨_, _, rfl, I.hok.fresh (Nat.le_refl _), rfl, hx⟩, ⟨⟨x, ?_⟩, hst'.1.at fun o q => (sb.2 it (Ne.symm hne)).trans q, hne, hea⟩, fun b hb => ?_⟩
    · have e1 : ((i + 1 : Nat) : Int) = (i : Int) + 1 := by omega
      rw [e1]; exact he'
    · have hb' : b < s.heap.objs.size := by
        have e' : b = e ∨ b = it := by simpa using hb
        rcases e' with z | z
        · rw [z]; exact hel
        · rw [z]; exact hil
      rw [upd_ne (Nat.ne_of_lt hb')]
      exact (hf b hb).1
  done := by
    intro X hP hw hK hc i pins s σ H E I hf st hg
    subst hP hw hK
    obtain ⟨⟨old, he⟩, hit, hne, hea⟩ := st
    obtain ⟨hH, hx⟩ := hg
    obtain ⟨its, rv, p, hz⟩ := I.tuple (SqT.of hH)
    obtain ⟨f0, f1, f2, f3, f4, f5⟩ := hf it (by simp)
    have hl := rv.length
    have hits : (its.toArray)[i]? = none := by
      rw [List.getElem?_toArray, List.getElem?_eq_none]
      omega
    have D : Draws X.prog X.w X.A.in1 it [it, a] i (fun _ _ => False) (fun j h => j = i ∧ h.IsTupleIter it a j ∧ h.IsTuple a its.toArray) :=
      ⟨fun _ _ st => let ⟨o, ho, _⟩ := st.2.1; ⟨o, ho⟩, fun _ _ _ st hk => ⟨st.1, st.2.1.at fun o e => hk it (by simp) o e, st.2.2.at fun o e => hk a (by simp) o e⟩,
        fun j s Q E hj st hQ => absurd hj (by rw [st.1]; exact Nat.lt_irrefl _), fun s Q E st hE => wpAny_nextOf_tuple_end (I.ok.hd hc) st.2.1 st.2.2 hits hE⟩
    exact wpAny_pyNext_enum_endD D he ⟨rfl, hit, p⟩ fun h' eb => ⟨rfl, I.turned (t' := s.toks) (fun b o hb q => eb b o hb q) f0 f1 f3 f4 f5⟩
  self := fun A i s Q E st h => let ⟨⟨_, he⟩, _⟩ := st; wpAny_pyIter_enum he h
section
variable {X : Cx} {E : Fx} {f : DE → Option DV} {T : List Addr} {elts : List Expr} {kk : Nat} {tpos p pos : Pos} {a : Expr}
def enD (n : Nat) : List PyData → List PyData
  | [] => []
  | d :: ds => .tuple [.int (n : Nat), d] :: enD (n + 1) ds
theorem enD_get {d : PyData} : ∀ {ds : List PyData} {n i : Nat}, (enD n ds)[i]? = some d → ∃ x, ds[i]? = some x ∧ d = .tuple [.int ((n + i : Nat) : Int), x]
  | [], n, i, h => by simp [enD] at h
  | y :: ds, n, i, h => by
    cases i with
    | zero =>
      unfold enD at h
      simp at h
      exact ⟨y, rfl, h.symm⟩
    | succ i =>
      unfold enD at h
      obtain ⟨x, h1, h2⟩ := enD_get (ds := ds) (n := n + 1) (i := i) (by simpa using h)
      refine ⟨x, by simpa using h1, ?_⟩
      rw [h2, show n + 1 + i = n + (i + 1) by omega]
theorem enD_length : ∀ (ds : List PyData) (n : Nat), (enD n ds).length = ds.length
  | [], _ => rfl
  | _ :: ds, n => by unfold enD; rw [List.length_cons, List.length_cons, enD_length ds]
theorem iter_en {S : Hp} {q : Addr} {vs : List V} {ds : List PyData} (h : S q = some (.tup vs)) (hd : DqAll S vs ds) : IterD T S (Itet q vs) (enD 0 ds) := by
  intro S2 H2 s1 s2 tb i
  have hq := s2 _ _ (s1 _ _ h)
  refine ⟨fun d e => ?_, fun hl => ⟨hq, by rw [hd.length]; rw [enD_length] at hl; exact hl⟩⟩
  obtain ⟨x, ex, rfl⟩ := enD_get e
  obtain ⟨v, e1, e2⟩ := hd.get ex
  refine ⟨⟨hq, (List.getElem?_eq_some_iff.mp e1).1⟩, fun y H3 z => ?_⟩
  obtain ⟨P, v', rfl, hP, rfl, e3⟩ := z
  rw [e1] at e3
  cases e3
  obtain ⟨g, z⟩ := dq_lay_tup (T := T) s2 tb hP (DqAll.cons (Dq.int (i : Nat)) (.cons (Dq.sub s1 _ _ e2) .nil))
  refine ⟨_, g, ?_⟩
  rw [Nat.zero_add]
  exact z
def iEnum (f : DE → Option DV) : DE → Option (List PyData) := fun env => (f env).bind fun x => match x with
  | .dat (.tuple ds) => some (enD 0 ds)
  | _ => none
theorem id_enum (hm : X.mg "enumerate" = none) (ha : PE X a (tE E .val f)) (hg : Gl X "enumerate" := by rfl) (he : starEach [a] X.env = (false, eval a X.env) :: starEach [] X.env := by rfl) (hs : starEach [a] X.env = [(false, eval a X.env)] := by rfl) :
    PI X (.Tuple elts kk tpos) (.Call (.Name "enumerate" p) [a] [] pos) (tI E (iEnum f)) := by
  refine ⟨fun pins s σ H R I ⟨S, env, ds, rel, e, q⟩ => ?_⟩
  unfold iEnum at e
  obtain ⟨dx, ex, e⟩ := Option.bind_eq_some_iff.mp e
  split at e
  rotate_left
  · cases e
  cases e
  have h : tCons (tE E .val f) tNil σ H fun vs H1 => ∃ v S1, vs = [v] ∧ Grow E.T S H S1 H1 ∧ Dq S1 v (.tuple _) := ⟨S, env, _, rel, ex, fun v S1 H1 g hv => ⟨v, S1, rfl, g, hv⟩⟩
  refine Call_ (ld_blt I hg hm boot_enumerate (PyProof.Rows.callWith_type1 (thn ((pa_cons ha pa_nil he).run pos pins s σ H _ I h) fun us s1 ⟨vs, H1, I1, r1, v, S1, ev, g1, hv⟩ => ?_) hs rfl))
  subst ev
  cases hv with
  | @tup a xs ds h1 h2 =>
    cases r1 with
    | cons r rr =>
      cases rr
      cases r
      have hH := g1.sh _ _ h1
      obtain ⟨its, rv, p', hz⟩ := I1.tuple (SqT.of hH)
      have hal : a < s1.heap.objs.size := by
        obtain ⟨o, ho, _⟩ := id p'
        exact Heap.lt_size ho
      refine call_enum_tuple p' fun h' he hit hsz hk => wpAny_pyIter_enum he ?_
      have I2 : Inv X pins σ H1 { s1 with heap := h' } := I1.kept (t' := s1.toks) hk
      refine ⟨s1.heap.objs.size + 1, [s1.heap.objs.size + 1, s1.heap.objs.size], _, _, H1, rfl, I2, turn_enumT a (s1.heap.objs.size + 1) s1.heap.objs.size xs (Nat.ne_of_lt hal), ⟨⟨.none, he⟩, hit, Nat.succ_ne_self _, Nat.ne_of_gt (Nat.lt_succ_of_lt hal)⟩, fun b hb => ?_, q _ S1 H1 g1 (iter_en h1 h2)⟩
      have e' : b = s1.heap.objs.size + 1 ∨ b = s1.heap.objs.size := by simpa using hb
      have hle : s1.heap.objs.size ≤ b := by
        rcases e' with z | z
        · rw [z]; exact Nat.le_add_right _ _
        · rw [z]; exact Nat.le_refl _
      exact I1.fpOk hle (I1.hok.fresh hle)
end
end FD
end

section
set_option Elab.async false
set_option linter.all false
set_option maxRecDepth 100000
set_option maxHeartbeats 4000000
/-! FD13: a generator expression whose element may call defs: its turns. -/
namespace FDG
open PySem PySem.Spec PyProof.Rows L2 GenW

/-- the context of a generator expression's frame -/
abbrev _root_.L2.Cx.gen (X : Cx) (A : Around) (s : Shared) (H : Hp) (cenv : Env) (fp : List Addr) : Cx := { X with A := A.deeper cenv, s_0 := s, H_0 := H, env := cenv, outer := X.stack, stack := cenv :: X.stack, ex := fp, fn := fun _ => false, pn := [], xe := fun _ _ => False }
/-- the state at turn i -/
structure GB (X : Cx) (fp : List Addr) (tn : Nat → Heap → Prop) (σ : L2.St) (pins : List (Addr × Obj)) (i : Nat) (H : Hp) (s : Shared) : Prop where
  inv : Inv X pins σ H s
  tn : tn i s.heap
  fr : ∀ b ∈ fp, H b = none
def GYp (X : Cx) (fp : List Addr) (tn : Nat → Heap → Prop) (σ : L2.St) (pa : List Addr) (n : Nat) (Yd : Nat → V → Hp → Prop) (Wd : Nat → Hp → Prop) : Protocol := fun m s₀ v s kap =>
  ∃ i y H, i < n ∧ i + m = n ∧ RelV y v ∧ Yd i y H ∧ GB X fp tn σ (pinsAt pa s₀.heap) (i + 1) H s ∧ ∀ s'' H'', GB X fp tn σ (pinsAt pa s''.heap) (i + 1) H'' s'' → Wd (i + 1) H'' → kap (.send .none) s''
def GPp (X : Cx) (σ : L2.St) (pa : List Addr) (n : Nat) (Wd : Nat → Hp → Prop) : Nat → Shared → Shared → Prop := fun m s₀ s => m = 1 ∧ ∃ H, Inv X (pinsAt pa s₀.heap) σ H s ∧ Wd n H
/-- what the iterator's objects keep apart from -/
structure Aside (X : Cx) (pa fp : List Addr) : Prop where
  ok : ∀ b ∈ fp, b ≠ X.env.locals ∧ b ∉ X.fs ∧ (b ∈ X.ex ∨ X.s_0.heap.objs.size ≤ b) ∧ (∀ x c, X.env.cells.lookup x = some c → c ≠ b) ∧ (∀ p ∈ X.pn, p.1 ≠ b) ∧ b ∉ pa
theorem Aside.fp {X : Cx} {pa fp : List Addr} (h : Aside X pa fp) {H : Hp} {hp : Heap} (hn : ∀ b ∈ fp, H b = none) : ∀ b ∈ fp, FpOk X (pinsAt pa hp) H b := fun b hb => by
  obtain ⟨h1, h2, h3, h4, h5, h6⟩ := h.ok b hb
  refine ⟨hn b hb, h1, h2, h3, h4, fun p hp => ?_⟩
  rcases List.mem_append.mp hp with hp | hp
  · exact h5 p hp
  · exact fun z => h6 (z ▸ (of_pinsAt hp).1)
section
variable {X : Cx} {A : Around} {fp pa : List Addr} {it : Addr} {tn : Nat → Heap → Prop} {J : It} {σ0 : L2.St} {vs : List Nat} {n : Nat} {Yd : Nat → V → Hp → Prop} {Wd : Nat → Hp → Prop} {g : TG} {te : TE} {tg elt iter : Expr} {scope : Scope} {pos : Pos}
theorem seg_loop (hX : X.env.scope.isCoroutine = false) (hxe : X.xe = fun _ _ => False) (hA : ∀ G, A.over (.compLoop (.GeneratorExp elt [⟨tg, iter, [], 0⟩] G pos) 0 (.ref it) .none X.env) [] = X.A) (hc : X.calm = true) (T : Turn X.prog X.w X.K tg J fp it tn) (as : Aside X pa fp) (pg : PG X tg g) (pe : PE X elt te)
    (hW : ∀ i H, Wd i H → (i = n ∧ J.stop i H) ∨ (i < n ∧ J.go i H ∧ ∀ x H', J.yld i H x H' → g x (wipe σ0 vs) H' fun σ2 H2 => wipe σ2 vs = wipe σ0 vs ∧ te σ2 H2 (Yd i))) :
    ∀ (r i : Nat) (s₀ s : Shared) (H : Hp), i + r = n → GB X fp tn (wipe σ0 vs) (pinsAt pa s₀.heap) i H s → Wd i H →
      Seg (model X.prog X.w) A (fun m s₀ q s₁ => q = .ok .next ∧ GPp X (wipe σ0 vs) pa n Wd m s₀ s₁) (GYp X fp tn (wipe σ0 vs) pa n Yd Wd) (r + 1) s₀
        (.compLoop (.GeneratorExp elt [⟨tg, iter, [], 0⟩] scope pos) 0 (.ref it) .none X.env) ((model X.prog X.w).den (.compLoop (.GeneratorExp elt [⟨tg, iter, [], 0⟩] scope pos) 0 (.ref it) .none X.env)) [] s := by
  intro r
  induction r with
  | zero =>
    intro i s₀ s H hi gb w
    rcases hW i H w with ⟨e, stop⟩ | ⟨hlt, _⟩
    rotate_left
    · omega
    subst e
    show Seg _ A _ _ _ s₀ _ ((compTurn (.GeneratorExp elt [⟨tg, iter, [], 0⟩] scope pos) 0 (.ref it) .none X.env).onRaise (leaving X.env)) [] s
    rw [compTurn_gen, Sem.onRaise_eq_wrap]
    refine seg_bind_wrap (wpAny_standAt ?_)
    refine seg_bind_wrap ?_
    rw [hA]
    refine thnF (T.done X rfl rfl rfl hc i _ s _ H (fun _ _ => False) gb.inv (as.fp gb.fr) gb.tn stop) fun q s1 ⟨hq, I1⟩ => ?_
    subst hq
    exact seg_end (.ok .next) ⟨rfl, rfl, H, I1, w⟩
  | succ r ih =>
    intro i s₀ s H hi gb w
    rcases hW i H w with ⟨e, _⟩ | ⟨hlt, go, step⟩
    · omega
    show Seg _ A _ _ _ s₀ _ ((compTurn (.GeneratorExp elt [⟨tg, iter, [], 0⟩] scope pos) 0 (.ref it) .none X.env).onRaise (leaving X.env)) [] s
    rw [compTurn_gen, Sem.onRaise_eq_wrap]
    refine seg_bind_wrap (wpAny_standAt ?_)
    refine seg_bind_wrap ?_
    rw [hA]
    refine thnF (T.item X rfl rfl rfl hc i _ s _ H (fun _ _ => False) gb.inv (as.fp gb.fr) gb.tn go) fun q s1 ⟨u, hq, h1⟩ => ?_
    subst hq
    refine seg_bind_wrap ?_
    rw [hA]
    refine thnF h1 fun _ s2 ⟨x, H2, I2, r2, y2, st2, fr2⟩ => ?_
    have I2' := I2.pinned (as.fp fr2) (T.obj _ _ st2)
    refine seg_bind_wrap ?_
    rw [hA]
    have hg := pg.run _ s2 _ H2 x u _ I2' r2 (step x H2 y2)
    rw [hxe] at hg
    refine thnF hg fun _ s3 ⟨σ3, H3, I3, hw3, q3⟩ => ?_
    refine seg_bind_wrap ?_
    rw [hA, List.forIn_nil]
    refine wpAny_pure ?_
    simp only [if_true]
    have hy : ∀ v, yieldOut X.env v = yieldValue v := fun v => by simp only [yieldOut, hX, Bool.false_eq_true, if_false]
    simp only [hy]
    rw [Sem.bind_eq_wrap', Sem.bind_eq_wrap', Sem.wrap_wrap, Sem.wrap_wrap]
    refine seg_wrap ?_
    rw [hA]
    have he := pe.run _ s3 σ3 H3 _ I3 q3
    rw [hxe] at he
    refine thnF he fun v s4 ⟨y, H4, I4, r4, q4⟩ => ?_
    have pin' : ∀ b ∈ fp, ∀ o, s2.heap.get? b = some o → s4.heap.get? b = some o ∧ H4 b = none := fun b hb o e =>
      let z := I4.pin (b, o) (List.mem_append_right _ (List.mem_append_right _ (mem_pinsAt hb e)))
      ⟨z.1, z.2.1⟩
    have hl : (wipe σ0 vs).length = σ3.length := by rw [← hw3, wipe_length]
    have gb4 : GB X fp tn (wipe σ0 vs) (pinsAt pa s₀.heap) (i + 1) H4 s4 := ⟨(I4.unpinned (pins := pinsAt pa s₀.heap)).weak hl (fun j v e => by
      rw [← hw3] at e
      exact (wipe_some e).1), T.keep _ _ _ st2 fun b hb o e => (pin' b hb o e).1, fun b hb => by
      obtain ⟨o, e, _⟩ := T.obj _ _ st2 b hb
      exact (pin' b hb o e).2⟩
    refine seg_at (seg_yield rfl rfl rfl ⟨i, y, H4, hlt, hi, r4, q4, gb4, fun s'' H'' gb'' w'' => ?_⟩)
    exact seg_again rfl (ih (i + 1) s'' s'' H'' (by omega) gb'' w'')
theorem seg_start (hX : X.env.scope.isCoroutine = false) (hxe : X.xe = fun _ _ => False) (hA : ∀ G, A.over (.compLoop (.GeneratorExp elt [⟨tg, iter, [], 0⟩] G pos) 0 (.ref it) .none X.env) [] = X.A) (hc : X.calm = true) (T : Turn X.prog X.w X.K tg J fp it tn) (as : Aside X pa fp) (pg : PG X tg g) (pe : PE X elt te)
    (hW : ∀ i H, Wd i H → (i = n ∧ J.stop i H) ∨ (i < n ∧ J.go i H ∧ ∀ x H', J.yld i H x H' → g x (wipe σ0 vs) H' fun σ2 H2 => wipe σ2 vs = wipe σ0 vs ∧ te σ2 H2 (Yd i)))
    (s₀ s : Shared) (H : Hp) (gb : GB X fp tn (wipe σ0 vs) (pinsAt pa s₀.heap) 0 H s) (w : Wd 0 H) :
      Seg (model X.prog X.w) A (fun m s₀ q s₁ => q = .ok .next ∧ GPp X (wipe σ0 vs) pa n Wd m s₀ s₁) (GYp X fp tn (wipe σ0 vs) pa n Yd Wd) (n + 1) s₀
        (.compStart (.GeneratorExp elt [⟨tg, iter, [], 0⟩] scope pos) 0 (.ref it) .none X.env) ((model X.prog X.w).den (.compStart (.GeneratorExp elt [⟨tg, iter, [], 0⟩] scope pos) 0 (.ref it) .none X.env)) [] s := by
  have loop := seg_loop (iter := iter) (scope := scope) hX hxe hA hc T as pg pe hW n 0 s₀ s H (Nat.zero_add _) gb w
  show Seg _ A _ _ _ s₀ _ ((compStart (.GeneratorExp elt [⟨tg, iter, [], 0⟩] scope pos) 0 (.ref it) .none X.env).onRaise (leaving X.env)) [] s
  unfold compStart
  rw [Sem.onRaise_eq_wrap]
  show Seg _ A _ _ _ s₀ _ ((ask >>= _).wrap _ _ _ _) [] s
  refine seg_bind_wrap (wpAny_askSetting ?_)
  split
  · exact seg_again rfl loop
  · first
      | exact seg_bind_wrap (wpAny_rule (seg_bind_wrap (wpAny_standAt (seg_bind_wrap (T.self _ 0 s _ _ gb.tn (seg_again rfl loop))))))
      | (refine seg_bind_wrap (wpAny_rule ?_); show Seg _ A _ _ _ s₀ _ ((standAt iter.pos >>= _).wrap _ _ _ _) [] s; exact seg_bind_wrap (wpAny_standAt (seg_bind_wrap (T.self _ 0 s _ _ gb.tn (seg_again rfl loop)))))
theorem over_gen (A : Around) (G : Scope) (cenv : Env) : A.over (.compLoop (.GeneratorExp elt [⟨tg, iter, [], 0⟩] G pos) 0 (.ref it) .none cenv) [] = A.deeper cenv := by
  first
    | rfl
    | (obtain ⟨hd, d, fr, gs, u⟩ := A; simp [Around.over, Around.deeper, marksOver, frameCount, unitsOf, envsOf, guardsOf, pushEnvs, pushGuards, Code.envs, Code.env?, Code.isFrame, Code.guards, Code.isGuard, Code.weight, Code.frames, Code.isCreation, Code.isCaller, Code.cUnits])
end

/-! ### the generator is made -/
section
variable {X : Cx} {pins : List (Addr × Obj)} {σ : L2.St} {H : Hp} {s : Shared}
/-- the frame of the generator expression stands, nothing has run -/
theorem gen_start {scope : Scope} {own : List (Str × Nat)} {fp : List Addr} {A : Around} {code : Value} {h' : Heap} {g' : Array GenState} {t' : Nat} {oa : Obj} {u0 : Value} (I : Inv X pins σ H s) (ok : BlkOk X.N X.env.scope scope own) (hN : X.N.Nodup) (hcell : ∀ y ∈ scope.names, y.2 ≠ .cell) (hco : scope.isCoroutine = false)
    (hh : A.handled = none) (hfr : A.frames = some X.stack) (hfp : ∀ b ∈ fp, FpOk X pins H b ∧ b < s.heap.objs.size) (hg : AllBare g') (hfa : oa.isFreed = false) (hoc : ∀ v, oa.data ≠ .cell v)
    (hn : h'.Ns s.heap.objs.size (fun y => if y = (".0" : Str) then some u0 else none)) (hs : Heap.SameBut s.heap.objs.size (s.heap.push { cls := .type "frame", data := .dict #[] }) h') :
    Inv (X.gen A s H (genEnv scope (cloFrom X.env.cells scope.names []) s.heap.objs.size code builtinsNs X.env) fp) [(h'.objs.size, oa)] (wipe σ (own.map (·.2))) H { s with gens := g', toks := t', heap := h'.push oa } := by
  have hfree : ∀ y ∈ scope.names, y.2 = .free → ∃ c, X.env.cells.lookup y.1 = some c := fun y hy e => by
    rcases ok.free y hy e with k | k
    · exact I.ok.has _ (.inl k)
    · exact I.ok.has _ (.inr k)
  have hz : h'.objs.size = s.heap.objs.size + 1 := by rw [hs.1, Heap.size_push]
  have kp : ∀ b o, s.heap.get? b = some o → (h'.push oa).get? b = some o := fun b o e => Heap.get?_push_of_some _ (hs.extBut b o (Nat.ne_of_lt (Heap.lt_size e)) (Heap.get?_push_of_some _ e))
  generalize hcenv : genEnv scope (cloFrom X.env.cells scope.names []) s.heap.objs.size code builtinsNs X.env = cenv
  have hL : cenv.locals = s.heap.objs.size := by rw [← hcenv]; rfl
  have hcl : cenv.cells = cloFrom X.env.cells scope.names [] := by rw [← hcenv]; rfl
  have hsc : cenv.scope = scope := by rw [← hcenv]; rfl
  have cm : ∀ {y c}, cenv.cells.lookup y = some c → X.env.cells.lookup y = some c ∧ c < s.heap.objs.size ∧ (y, NameKind.free) ∈ scope.names := fun {y c} hm => by
    rw [hcl] at hm
    rcases cloFrom_mem (PySem.mem_of_lookup hm) with hm | ⟨h1, rfl⟩
    · cases hm
    · obtain ⟨c, hc⟩ := hfree _ h1 rfl
      rw [hc]
      obtain ⟨w, z⟩ := I.cell _ _ hc
      exact ⟨rfl, z.lt, h1⟩
  have look : ∀ {y}, scope.names.lookup y = some .free → ∃ c, cenv.cells.lookup y = some c ∧ X.env.cells.lookup y = some c := fun {y} hl => by
    have hy : (y, NameKind.free) ∈ scope.names := PySem.mem_of_lookup hl
    obtain ⟨c', e'⟩ := mem_lookup (cloFrom_has (cells := X.env.cells) (acc := []) hy)
    rw [← hcl] at e'
    exact ⟨c', e', (cm e').1⟩
  have okB : (X.gen A s H cenv fp).Ok := by
    refine ⟨I.ok.mod, by show cenv.scope.kind = _; rw [hsc]; exact ok.kind, by show cenv.globals = _; rw [← hcenv]; exact I.ok.glob, by show cenv.builtins = _; rw [← hcenv] <;> rfl, by show s.heap.objs.size ≤ cenv.locals; rw [hL]; exact Nat.le_refl _,
      fun y z c e1 e2 => I.ok.inj y z c (cm e1).1 (cm e2).1, fun y hy => ?_, fun y c z e => ?_, fun _ => hh, Around.frames_deeper hfr, .inr ⟨rfl, by rw [← hcenv] <;> rfl⟩, fun b hb => ⟨?_, fun y c e z => ?_⟩, I.bs, Nat.le_trans I.ok.bsz I.sz, fun b o e hb => ?_, fun b hb z => ?_, I.stack, I.stkFree⟩
    · show ∃ c, cenv.cells.lookup y = some c
      have key : ∀ k, cenv.kindOf y = some k → (k = .cell ∨ k = .free) → ∃ c, cenv.cells.lookup y = some c := fun k hk hk' => by
        unfold Env.kindOf at hk
        rw [hsc] at hk
        rcases hk' with rfl | rfl
        · exact absurd rfl (hcell _ (PySem.mem_of_lookup hk))
        · obtain ⟨c, h1, _⟩ := look hk
          exact ⟨c, h1⟩
      rcases hy with hy | hy
      · exact key _ hy (.inl rfl)
      · exact key _ hy (.inr rfl)
    · cases z
    · show b ≠ cenv.locals
      rw [hL]; exact Nat.ne_of_lt (hfp b hb).2
    · exact (hfp b hb).1.2.2.2.2.1 y c (cm e).1 z
    · rcases (hfp b hb).1.2.2.2.1 with z | z
      · exact I.ok.noex b o e z
      · exact absurd (Nat.lt_of_lt_of_le (Heap.lt_size e) (Nat.le_trans I.ok.bsz z)) (Nat.lt_irrefl _)
    · rcases List.mem_cons.mp (I.stkSub b z) with z | z
      · exact (hfp b hb).1.2.1 z
      · exact (hfp b hb).1.2.2.1 z
  refine ⟨okB, rfl, hg, Un.kept kp, ⟨fun y => if y = (".0" : Str) then some u0 else none, ?_, fun i y av e1 e2 e3 => ?_⟩, fun y c e => ?_, ?_, fun y c e => ?_, fun p hp => ?_, I.hok.kept kp, by rw [wipe_length]; exact I.len⟩
  · show Heap.Ns _ cenv.locals _
    rw [hL]
    exact hn.push _
  · obtain ⟨e2, hne⟩ := wipe_some e2
    have hfr : scope.names.lookup y = some .free := by
      have e3 : Vis cenv.scope y := e3
      rw [hsc] at e3
      have no : ∀ k, scope.names.lookup y = some k → ¬ (k = .local ∨ k = .cell) := fun k e hh => by
        rcases ok.own _ (PySem.mem_of_lookup e) hh with e' | e'
        · obtain ⟨p, hp, hpy⟩ := List.mem_map.mp e'
          have e3 := ok.ix p hp
          have : p.1 = y := hpy
          rw [this] at e3
          exact hne (List.mem_map.mpr ⟨p, hp, nodup_ix hN e3 e1⟩)
        · exact e' (List.mem_of_getElem? e1)
      rcases e3 with e3 | e3 | e3
      · exact absurd (.inl rfl) (no _ e3)
      · exact absurd (.inr rfl) (no _ e3)
      · exact e3
    obtain ⟨m, hn', hl⟩ := I.loc
    have hvis : Vis X.env.scope y := (ok.free _ (PySem.mem_of_lookup hfr) rfl).elim (fun k => .inr (.inl k)) (fun k => .inr (.inr k))
    obtain ⟨w, r, q⟩ := hl i y av e1 e2 hvis
    refine ⟨w, r, .inr ⟨.inr (by show cenv.scope.names.lookup y = _; rw [hsc]; exact hfr), ?_⟩⟩
    obtain ⟨c, h1, h2⟩ := look hfr
    rcases q with ⟨k, _⟩ | ⟨_, c', e', z⟩
    · have k : X.env.scope.names.lookup y = some .local := k
      rcases ok.free _ (PySem.mem_of_lookup hfr) rfl with k' | k' <;> rw [show X.env.scope.names.lookup y = _ from k'] at k <;> cases k
    · rw [h2] at e'; cases e'
      exact ⟨c, h1, z.keeps kp⟩
  · obtain ⟨h1, _, _⟩ := cm (show cenv.cells.lookup y = some c from e)
    obtain ⟨w, z⟩ := I.cell y c h1
    exact ⟨w, z.keeps kp⟩
  · show H cenv.locals = none
    rw [hL]; exact I.hok.fresh (Nat.le_refl _)
  · obtain ⟨h1, _, _⟩ := cm (show cenv.cells.lookup y = some c from e)
    exact I.freeC y c h1
  · have e : p = (h'.objs.size, oa) := by simpa using hp
    subst e
    refine ⟨Heap.get?_push_size _ hfa, I.hok.fresh (by rw [hz]; exact Nat.le_succ _), by show h'.objs.size ≠ cenv.locals; rw [hL, hz]; exact Nat.succ_ne_self _, fun hb => ?_, hoc⟩
    rcases List.mem_cons.mp (I.stkSub _ hb) with z | z
    · have := I.lt
      have z : h'.objs.size = X.env.locals := z
      rw [← z, hz] at this
      exact absurd (Nat.lt_of_succ_lt this) (Nat.lt_irrefl _)
    · exact I.nofs (a := h'.objs.size) (by rw [hz]; exact Nat.le_succ _) z
end
end FDG
end

section
set_option Elab.async false
set_option linter.all false
set_option maxRecDepth 100000
set_option maxHeartbeats 4000000
/-! FD14: generator expressions: making one; the consumers any, all, sum. -/
namespace FDG
open PySem PySem.Spec PyProof.Rows L2 GenW
section
variable {X : Cx} {pins : List (Addr × Obj)} {σ : L2.St} {H : Hp} {s : Shared}
theorem inv_gens {g' : Array GenState} (I : Inv X pins σ H s) (hg : AllBare g') : Inv X pins σ H { s with gens := g' } := by
  obtain ⟨m, ⟨o, es, ep, ho, r⟩, _⟩ := id I.loc
  exact I.step (h' := s.heap) (g' := g') (t' := s.toks) (d' := s.drawn) (ch := []) (fun _ z => nomatch z) (fun b o _ hb _ e n => e) (fun b o _ hb _ e n => ⟨o.slots, e⟩) (fun b o _ e n => n) (fun b o _ e => ⟨o, e⟩) (fun _ _ e => e) (fun _ _ _ e => e) (fun b ps e => ⟨#[], by rw [e]; simp⟩) (fun m' hm => hm) I.hok hg
theorem bare_set {g : Nat} {x : GenState} (h : AllBare s.gens) (hx : x.bare = true) : AllBare (s.setGen g x).gens := by
  intro y hy
  have hy : y ∈ s.gens.setIfInBounds g x := hy
  rcases Array.mem_or_eq_of_mem_setIfInBounds hy with z | z
  · exact h y z
  · rw [z]; exact hx
def cenvOf (X : Cx) (scope : Scope) (C : Addr) (code : Value) : Env := genEnv scope (cloFrom X.env.cells scope.names []) C code builtinsNs X.env
/-- the generator at a stands, its frame at C too; s4: ahead of its frame -/
structure Made (X : Cx) (pins : List (Addr × Obj)) (σ : L2.St) (H : Hp) (tg elt iter : Expr) (scope : Scope) (vs : List Nat) (pos : Pos) (J : It) (a : Addr) (s5 : Shared) (it : Addr) (fp : List Addr) (tn : Nat → Heap → Prop) (gno : Nat) (s4 : Shared) (code : Value) : Prop where
  turn : Turn X.prog X.w X.K tg J fp it tn
  inv : Inv X pins σ H s4
  fpok : ∀ b ∈ fp, FpOk X pins H b ∧ b < s4.heap.objs.size
  gen : s5.heap.IsGen a gno
  gs : s5.gens[gno]? = some (.fresh (.compStart (.GeneratorExp elt [⟨tg, iter, [], 0⟩] scope pos) 0 (.ref it) .none (cenvOf X scope s4.heap.objs.size code)))
  lt : s4.heap.objs.size < a
  inv5 : ∀ A' : Around, A'.handled = none → A'.frames = some X.stack → Inv (X.gen A' s4 H (cenvOf X scope s4.heap.objs.size code) fp) (pinsAt [a] s5.heap) (wipe σ vs) H s5
  tn5 : tn 0 s5.heap
theorem gen_make {c P : Addr} {elt iter tg : Expr} {gpos : Pos} {scope : Scope} {own : List (Str × Nat)} {wi : TI} {k : Nat} {Q' : Value → Shared → Prop} {R : It → Hp → Prop}
    (hr : Room k X.A) (TB : GxR.TabB X.base X.mg c P) (hcode : X.env.code = .ref c) (hi : PI X tg iter wi) (ok : BlkOk X.N X.env.scope scope own) (hN : X.N.Nodup) (hcell : ∀ y ∈ scope.names, y.2 ≠ .cell) (hco : scope.isCoroutine = false) (hdot : scope.names.lookup (".0" : Str) = some NameKind.local)
    (hs : ∀ v, genFold iter X.env v = pure v) (I : Inv X pins σ H s) (h : wi σ H fun J H1 => GxR.TabG H1 P ∧ ∀ H2, GxR.Tabbed P H1 H2 → R J H2)
    (hQ : ∀ J H2 a s5 it fp tn gno s4 code, R J H2 → Made X pins σ H2 tg elt iter scope (own.map (·.2)) gpos J a s5 it fp tn gno s4 code → Q' (.ref a) s5) :
    wpAny (model X.prog X.w) X.A (eval (.GeneratorExp elt [⟨tg, iter, [], 0⟩] scope gpos) X.env) Q' X.xe s := by
  have hfree : ∀ y ∈ scope.names, y.2 = .free → ∃ c, X.env.cells.lookup y.1 = some c := fun y hy e => by
    rcases ok.free y hy e with k | k
    · exact I.ok.has _ (.inl k)
    · exact I.ok.has _ (.inr k)
  refine wpAny_GeneratorExp_make hco (closure_ok hfree) hcell hdot ok.kind (by have := hr.dp; omega) ?_ hs
  refine thn (hi.run pins s σ H _ I h) fun xv s1 h1 => thn h1 fun itv s2 h2 => ?_
  obtain ⟨it, fp, tn, J, H1, rfl, I1, T, st2, f2, ⟨ps, hP, ht⟩, q1⟩ := h2
  have hPs : s2.heap.get? P = some { cls := .none, data := .fields ps } := I1.hok P _ hP
  have cd : PySem.W.CodeHd s2.heap c P := TB.code.keeps I1.bk
  have sz : ∀ b ∈ fp, b < s2.heap.objs.size := fun b hb => by
    obtain ⟨o, e, _⟩ := T.obj _ _ st2 b hb
    exact Heap.lt_size e
  have fpP : ∀ b ∈ fp, b ≠ P := fun b hb z => by
    have := (f2 b hb).1
    rw [z, hP] at this; cases this
  have cont : ∀ (code : Value) (h3 : Heap) (tk : Nat) (ps' : Array Value), Heap.ExtBut P s2.heap h3 → s2.heap.objs.size ≤ h3.objs.size → h3.get? P = some { cls := .none, data := .fields ps' } → (∃ more, ps' = ps ++ more) → TriplesOk ps'.toList →
      wpAny (model X.prog X.w) X.A (builtinsFor X.env.globals X.env.builtins) (fun bi s₄ => ∀ h', h'.Ns s₄.heap.objs.size (fun y => if y = ".0" then some (.ref it) else none) → Heap.SameBut s₄.heap.objs.size (s₄.heap.push { cls := .type "frame", data := .dict #[] }) h' →
          Q' (.ref h'.objs.size) { s₄ with
            gens := s₄.gens.push (.fresh (.compStart (.GeneratorExp elt [⟨tg, iter, [], 0⟩] scope gpos) 0 (.ref it) .none (genEnv scope (cloFrom X.env.cells scope.names []) s₄.heap.objs.size code bi X.env))),
            toks := s₄.toks + 1 + 1 + 1,
            heap := h'.push { cls := .type "generator", data := .fields #[.int s₄.gens.size 0, .str "<genexpr>" (s₄.toks + 1), .str (X.env.qual ++ "<genexpr>") (s₄.toks + 1 + 1)] } }) X.xe { s2 with heap := h3, toks := tk } := by
    intro code h3 tk ps' hx hsz hP3 hmore ht3
    obtain ⟨bm, ob, e1, e2, e3, e4, e5, e6, e7, e8⟩ := TB.bm
    obtain ⟨more, rfl⟩ := hmore
    have I4 : Inv X pins σ (upd H1 P (.tbl (ps ++ more))) { s2 with heap := h3, toks := tk } := GxR.inv_tab (more := more) (h' := h3) (g' := s2.gens) (d' := s2.drawn) (t' := tk) I1 hP (fun b o hb e => hx b o hb e) hP3 I1.bare
    refine wpAny_builtinsFor (m := X.mg) (by rw [I1.ok.glob]; exact (I1.mod.glob.keeps I1.bk).extBut hx TB.gP) e1 e2 (hx _ _ e4 (I1.bk _ _ e5)) e6 e7 e8 ?_
    intro h' hn' hs'
    have f4 : ∀ b ∈ fp, FpOk X pins (upd H1 P (.tbl (ps ++ more))) b ∧ b < h3.objs.size := fun b hb => by
      obtain ⟨f0, fr⟩ := f2 b hb
      exact ⟨⟨by rw [upd_ne (fpP b hb)]; exact f0, fr⟩, Nat.lt_of_lt_of_le (sz b hb) hsz⟩
    have hz : h'.objs.size = h3.objs.size + 1 := by rw [hs'.1, Heap.size_push]
    have kp : ∀ b o, h3.get? b = some o → h'.get? b = some o := fun b o e => hs'.extBut b o (Nat.ne_of_lt (Heap.lt_size e)) (Heap.get?_push_of_some _ e)
    refine hQ J (upd H1 P (.tbl (ps ++ more))) _ _ it fp tn s2.gens.size { s2 with heap := h3, toks := tk } code (q1 _ ⟨⟨ps ++ more, upd_same, ht3⟩, fun b hb => upd_ne hb⟩) ⟨T, I4, f4, ?_, ?_, ?_, fun A' hh hfr => ?_, ?_⟩
    · exact ⟨_, _, _, Heap.get?_push_size _ rfl, rfl, rfl, rfl⟩
    · exact Array.getElem?_push_size ..
    · show h3.objs.size < h'.objs.size
      omega
    · have e : pinsAt [h'.objs.size] (h'.push { cls := .type "generator", data := .fields #[.int s2.gens.size 0, .str "<genexpr>" (tk + 1), .str (X.env.qual ++ "<genexpr>") (tk + 1 + 1)] }) = [(h'.objs.size, { cls := .type "generator", data := .fields #[.int s2.gens.size 0, .str "<genexpr>" (tk + 1), .str (X.env.qual ++ "<genexpr>") (tk + 1 + 1)] })] := by
        unfold pinsAt
        rw [List.filterMap_cons, Heap.get?_push_size _ rfl]
        rfl
      rw [e]
      exact gen_start I4 ok hN hcell hco hh hfr f4 (I1.bare.push rfl) rfl (fun v => nofun) hn' hs'
    · refine T.keep _ _ _ st2 fun b hb o e => Heap.get?_push_of_some _ (kp _ _ (hx b o (fpP b hb) e))
  refine ⟨I1.nolimit, ?_⟩
  cases hf : codeAmong gpos ps.toList with
  | none =>
    refine wpAny_genexprCodeX hcode (cd.code hPs ht) (cd.tab hPs) hf fun c' h' tk hx hge hlt hco' _ htab' _ => ?_
    obtain ⟨o1, vs, f1, tf, fl, tg, inF, tx, tt, op, _, _, _, _, _, _, _, _, _, htr, _⟩ := hco'
    exact cont _ h' tk _ hx (Nat.le_trans hge (Nat.le_of_lt hlt)) htab'.2 ⟨_, rfl⟩ htr
  | some cv =>
    refine wpAny_genexprCode_hit hcode (cd.code hPs ht) hf ?_
    exact cont cv s2.heap s2.toks ps (Heap.ExtBut.refl _ _) (Nat.le_refl _) hPs ⟨#[], by simp⟩ ht
end

/-! ### next -/
section
variable {X : Cx} {A : Around} {fp pa : List Addr} {it a : Addr} {tn : Nat → Heap → Prop} {σ : L2.St} {n gno : Nat} {Yd : Nat → V → Hp → Prop} {Wd : Nat → Hp → Prop}
/-- the generator sleeps ahead of its turn i -/
structure GAt (X : Cx) (A : Around) (fp pa : List Addr) (tn : Nat → Heap → Prop) (σ : L2.St) (n gno : Nat) (Yd : Nat → V → Hp → Prop) (Wd : Nat → Hp → Prop) (a : Addr) (i : Nat) (s : Shared) : Prop where
  gen : s.heap.IsGen a gno
  goes : ∃ gs : GenState, s.gens[gno]? = some gs ∧ ∀ s'' H'', GB X fp tn σ (pinsAt pa s''.heap) i H'' s'' → Wd i H'' →
    gs.Goes (model X.prog X.w) A.in1 (fun m s₀ q s₁ => q = .ok .next ∧ GPp X σ pa n Wd m s₀ s₁) (GYp X fp tn σ pa n Yd Wd) (n - i + 1) (.send .none) s''
theorem pins_same {pa : List Addr} {h h' : Heap} (k : ∀ b ∈ pa, h'.get? b = h.get? b) : pinsAt pa h' = pinsAt pa h := by
  unfold pinsAt
  induction pa with
  | nil => rfl
  | cons b r ih =>
    rw [List.filterMap_cons, List.filterMap_cons, k b (List.mem_cons_self ..), ih fun c hc => k c (List.mem_cons_of_mem _ hc)]
theorem pins_hold {pins : List (Addr × Obj)} {H : Hp} {s : Shared} {pa : List Addr} {h : Heap} (I : Inv X pins σ H s) (hp : ∀ p ∈ pinsAt pa h, p ∈ pins) (hs : ∀ b ∈ pa, ∃ o, h.get? b = some o) : pinsAt pa s.heap = pinsAt pa h := by
  refine pins_same fun b hb => ?_
  obtain ⟨o, e⟩ := hs b hb
  rw [e]
  exact (I.pin (b, o) (List.mem_append_right _ (hp _ (mem_pinsAt hb e)))).1
theorem next_gen {i : Nat} {s : Shared} {H : Hp} {Q : Option Value → Shared → Prop} {E : Value → Shared → Prop} (hh : A.handled = none) (hd : A.depth < recursionLimit) (ha : a ∈ pa) (hpa : ∀ b ∈ pa, ∃ o, s.heap.get? b = some o)
    (at_ : GAt X A fp pa tn σ n gno Yd Wd a i s) (gb : GB X fp tn σ (pinsAt pa s.heap) i H s) (w : Wd i H) (hin : i ≤ n)
    (hY : i < n → ∀ v s1 y H1, RelV y v → Yd i y H1 → GAt X A fp pa tn σ n gno Yd Wd a (i + 1) s1 → pinsAt pa s1.heap = pinsAt pa s.heap → (∀ b ∈ pa, ∃ o, s1.heap.get? b = some o) → GB X fp tn σ (pinsAt pa s1.heap) (i + 1) H1 s1 → Q (some v) s1)
    (hP : i = n → ∀ s1 H1, (∀ b ∈ pa, s1.heap.get? b = s.heap.get? b) → Inv X (pinsAt pa s.heap) σ H1 s1 → Wd n H1 → Q none s1) : wpAny (model X.prog X.w) A (pyNext (.ref a)) Q E s := by
  obtain ⟨hg, gs, hgs, goes⟩ := at_
  have hlt : gno + 1 ≤ s.gens.size := by
    have := (Array.getElem?_eq_some_iff.mp hgs).1
    omega
  have gbr : GB X fp tn σ (pinsAt pa (s.setGen gno .running).heap) i H (s.setGen gno .running) := ⟨inv_gens gb.inv (bare_set gb.inv.bare rfl), gb.tn, gb.fr⟩
  have keepP : ∀ {s1 : Shared} {H1 : Hp}, Inv X (pinsAt pa s.heap) σ H1 s1 → ∀ b ∈ pa, s1.heap.get? b = s.heap.get? b := fun {s1 H1} I1 b hb => by
    obtain ⟨o, e⟩ := hpa b hb
    rw [e]
    exact (I1.pin (b, o) (List.mem_append_right _ (mem_pinsAt hb e))).1
  refine wpAny_gsz (n := gno + 1) hlt (wpAny_pyNext_genexpQ hh gb.inv.nolimit hd hg hgs (goes _ H gbr w) (fun v s1 gs' hb hv hsz => ?_) (fun s1 hp h' hk hsz => ?_))
  · obtain ⟨i', y, H1, hlt', hi', rv, yd, gb1, kap⟩ := hv
    have hii : i' = i := by omega
    subst hii
    have kp := keepP gb1.inv
    have hpe : pinsAt pa (s1.setGen gno gs').heap = pinsAt pa s.heap := pins_same kp
    have hsz' : gno < s1.gens.size := by
      have : (s1.setGen gno gs').gens.size = s1.gens.size := setGen_size ..
      omega
    refine hY hlt' v _ y H1 rv yd ⟨?_, gs', ?_, fun s'' H'' gb'' w'' => ?_⟩ hpe (fun b hb => ?_) ⟨?_, gb1.tn, gb1.fr⟩
    · obtain ⟨o, nm, qn, ho, r⟩ := hg
      exact ⟨o, nm, qn, (kp a ha).trans ho, r⟩
    · simp [Shared.setGen, hsz']
    · have k := kap s'' H'' gb'' w''
      have e : n - (i' + 1) + 1 = n - i' := by omega
      rw [e]
      exact k
    · obtain ⟨o, e⟩ := hpa b hb
      exact ⟨o, (kp b hb).trans e⟩
    · rw [hpe]
      exact inv_gens gb1.inv (bare_set gb1.inv.bare hb)
  · obtain ⟨hm, H1, I1, w1⟩ := hp
    have hi : i = n := by omega
    have I2 : Inv X (pinsAt pa s.heap) σ H1 { s1.setGen gno .finished with heap := h' } := (inv_gens I1 (bare_set I1.bare rfl)).kept (h' := h') (t' := s1.toks) hk
    exact hP hi _ H1 (keepP I2) I2 w1
end
end FDG
end

section
set_option Elab.async false
set_option linter.all false
set_option maxRecDepth 100000
set_option maxHeartbeats 4000000
/-! FD15: any, all, sum of a generator expression, as functions of data. -/
namespace FDG
open PySem PySem.Spec PyProof.Rows L2 GenW FD
section
variable {X : Cx} {A : Around} {fp pa : List Addr} {it a : Addr} {tn : Nat → Heap → Prop} {σ : L2.St} {n gno : Nat} {Yd : Nat → V → Hp → Prop} {Wd : Nat → Hp → Prop} {R : Result → Shared → Prop}
theorem any_loop (fin : Bool → Hp → Prop) (hh : A.handled = none) (hd : A.depth < recursionLimit) (ha : a ∈ pa) (hend : ∀ H, Wd n H → fin false H) (hY : ∀ i y H, Yd i y H → ∃ b, y = .bl b ∧ if b = true then fin true H else Wd (i + 1) H)
    (hR : ∀ b s' pins H', Inv X pins σ H' s' → fin b H' → R (.ok (.ret (.bool b))) s') :
    ∀ (r i : Nat) (s : Shared) (H : Hp), i + r = n → (∀ b ∈ pa, ∃ o, s.heap.get? b = some o) → GAt X A.in1 fp pa tn σ n gno Yd Wd a i s → GB X fp tn σ (pinsAt pa s.heap) i H s → Wd i H → codeAny (model X.prog X.w) A (.builtin "any.loop" ⟨[.ref a], []⟩) R s := by
  intro r
  induction r with
  | zero =>
    intro i s H hi hpa at_ gb w
    refine codeAny_builtin F.entry_any_loop ?_
    rw [Around.under_plainId F.plain_any_loop _]
    show wpAny _ A.in1 (pyNext (.ref a) >>= _) _ _ s
    refine wpAny_bind (next_gen (A := A.in1) hh hd ha hpa at_ gb w (by omega) (fun h => by omega) fun _ s1 H1 _ I1 w1 => ?_)
    refine wpAny_bind (wpAny_rule (wpAny_pure ?_))
    exact hR false s1 _ H1 I1 (hend _ w1)
  | succ r ih =>
    intro i s H hi hpa at_ gb w
    refine codeAny_builtin F.entry_any_loop ?_
    rw [Around.under_plainId F.plain_any_loop _]
    show wpAny _ A.in1 (pyNext (.ref a) >>= _) _ _ s
    refine wpAny_bind (next_gen (A := A.in1) hh hd ha hpa at_ gb w (by omega) (fun _ v s1 y H1 rv yd at1 hp hpa1 gb1 => ?_) fun h => by omega)
    obtain ⟨b, rfl, hb⟩ := hY i y H1 yd
    cases (show v = Value.bool b from rv)
    refine wpAny_bind (wpAny_holding (wpAny_truthy_bool ?_))
    refine wpAny_bind (wpAny_letGo ?_)
    cases b with
    | false =>
      simp only [Bool.false_eq_true, if_false]
      exact wpAny_pure ⟨plainId_quiet F.plain_any_loop _, ih (i + 1) s1 H1 (by omega) hpa1 at1 gb1 (by simpa using hb)⟩
    | true =>
      simp only [if_true]
      refine wpAny_bind (wpAny_rule (wpAny_pure ?_))
      exact hR true s1 _ H1 gb1.inv (by simpa using hb)
theorem all_loop (fin : Bool → Hp → Prop) (hh : A.handled = none) (hd : A.depth < recursionLimit) (ha : a ∈ pa) (hend : ∀ H, Wd n H → fin true H) (hY : ∀ i y H, Yd i y H → ∃ b, y = .bl b ∧ if b = true then Wd (i + 1) H else fin false H)
    (hR : ∀ b s' pins H', Inv X pins σ H' s' → fin b H' → R (.ok (.ret (.bool b))) s') :
    ∀ (r i : Nat) (s : Shared) (H : Hp), i + r = n → (∀ b ∈ pa, ∃ o, s.heap.get? b = some o) → GAt X A.in1 fp pa tn σ n gno Yd Wd a i s → GB X fp tn σ (pinsAt pa s.heap) i H s → Wd i H → codeAny (model X.prog X.w) A (.builtin "all.loop" ⟨[.ref a], []⟩) R s := by
  intro r
  induction r with
  | zero =>
    intro i s H hi hpa at_ gb w
    refine codeAny_builtin F.entry_all_loop ?_
    rw [Around.under_plainId F.plain_all_loop _]
    show wpAny _ A.in1 (pyNext (.ref a) >>= _) _ _ s
    refine wpAny_bind (next_gen (A := A.in1) hh hd ha hpa at_ gb w (by omega) (fun h => by omega) fun _ s1 H1 _ I1 w1 => ?_)
    refine wpAny_bind (wpAny_rule (wpAny_pure ?_))
    exact hR true s1 _ H1 I1 (hend _ w1)
  | succ r ih =>
    intro i s H hi hpa at_ gb w
    refine codeAny_builtin F.entry_all_loop ?_
    rw [Around.under_plainId F.plain_all_loop _]
    show wpAny _ A.in1 (pyNext (.ref a) >>= _) _ _ s
    refine wpAny_bind (next_gen (A := A.in1) hh hd ha hpa at_ gb w (by omega) (fun _ v s1 y H1 rv yd at1 hp hpa1 gb1 => ?_) fun h => by omega)
    obtain ⟨b, rfl, hb⟩ := hY i y H1 yd
    cases (show v = Value.bool b from rv)
    refine wpAny_bind (wpAny_holding (wpAny_truthy_bool ?_))
    refine wpAny_bind (wpAny_letGo ?_)
    cases b with
    | true =>
      simp only [if_true]
      exact wpAny_pure ⟨plainId_quiet F.plain_all_loop _, ih (i + 1) s1 H1 (by omega) hpa1 at1 gb1 (by simpa using hb)⟩
    | false =>
      simp only [Bool.false_eq_true, if_false]
      refine wpAny_bind (wpAny_rule (wpAny_pure ?_))
      exact hR false s1 _ H1 gb1.inv (by simpa using hb)
theorem sum_loop (acc : Nat → Int) (fin : Hp → Prop) {S : Addr} (hh : A.handled = none) (hd : A.depth < recursionLimit) (haS : a ≠ S) (hfS : S ∉ fp) (hS0 : X.s_0.heap.objs.size ≤ S) (hpn : X.pn = []) (hcS : ∀ x c, X.env.cells.lookup x = some c → c ≠ S) (hend : ∀ H, Wd n H → fin H) (hY : ∀ i y H, Yd i y H → ∃ k, y = .int k ∧ acc (i + 1) = acc i + k ∧ InLong k ∧ InLong (acc (i + 1)) ∧ Wd (i + 1) H)
    (hT : ∀ i h h', tn i h → (∀ b ∈ fp, ∀ o, h.get? b = some o → h'.get? b = some o) → tn i h')
    (hR : ∀ t s' pins H', Inv X pins σ H' s' → fin H' → R (.ok (.ret (.int (acc n) t))) s') :
    ∀ (r i : Nat) (s : Shared) (H : Hp) (tA : Tok) (c : Nat), i + r = n → s.heap.get? S = some { cls := .type "list", dict := none, data := .seq #[.int (acc i) tA] c, slots := #[] } → (∀ b ∈ [a, S], ∃ o, s.heap.get? b = some o) → GAt X A.in1 fp [a, S] tn σ n gno Yd Wd a i s → GB X fp tn σ (pinsAt [a, S] s.heap) i H s → Wd i H → codeAny (model X.prog X.w) A (.builtin "sum.loop" ⟨[.ref a, .ref S, rawInt 0, rawInt 0], []⟩) R s := by
  intro r
  induction r with
  | zero =>
    intro i s H tA c hi hS hpa at_ gb w
    refine codeAny_builtin F.entry_sum_loop ?_
    rw [Around.under_plainId F.plain_sum_loop _]
    show wpAny _ A.in1 (seqItems? (.ref S) >>= _) _ _ s
    refine wpAny_bind (wpAny_seqItems hS rfl ?_)
    show wpAny _ A.in1 (tryCatch (pyNext (.ref a)) _ >>= _) _ _ s
    refine wpAny_bind (wpAny_tryCatch (next_gen (A := A.in1) hh hd (by simp) hpa at_ gb w (by omega) (fun h => by omega) fun hi' s1 H1 _ I1 w1 => ?_))
    have e : i = n := by omega
    rw [e]
    exact wpAny_pure (hR _ s1 _ H1 I1 (hend _ w1))
  | succ r ih =>
    intro i s H tA c hi hS hpa at_ gb w
    refine codeAny_builtin F.entry_sum_loop ?_
    rw [Around.under_plainId F.plain_sum_loop _]
    show wpAny _ A.in1 (seqItems? (.ref S) >>= _) _ _ s
    refine wpAny_bind (wpAny_seqItems hS rfl ?_)
    show wpAny _ A.in1 (tryCatch (pyNext (.ref a)) _ >>= _) _ _ s
    refine wpAny_bind (wpAny_tryCatch (next_gen (A := A.in1) hh hd (by simp) hpa at_ gb w (by omega) (fun _ v s1 y H1 rv yd at1 hp hpa1 gb1 => ?_) fun h => by omega))
    obtain ⟨k, rfl, hk, ⟨f1, f2⟩, ⟨f3, f4⟩, w1⟩ := hY i y H1 yd
    obtain ⟨t, rfl⟩ := (show ∃ t, v = Value.int k t from rv)
    have pinS := gb1.inv.pin
    have hS1 : s1.heap.get? S = some { cls := .type "list", dict := none, data := .seq #[.int (acc i) tA] c, slots := #[] } := by
      obtain ⟨o, e⟩ := hpa1 S (by simp)
      have e2 : (S, o) ∈ pinsAt [a, S] s.heap := by rw [← hp]; exact mem_pinsAt (by simp) e
      have := (of_pinsAt e2).2
      rw [hS] at this
      cases this
      exact e
    have hc : ((decide (-(2 ^ 63) ≤ k) && decide (k < 2 ^ 63)) && (decide (-(2 ^ 63) ≤ acc i + k) && decide (acc i + k < 2 ^ 63))) = true := by
      rw [← hk]
      simp only [Bool.and_eq_true, decide_eq_true_eq]
      exact ⟨⟨f1, f2⟩, f3, f4⟩
    show wpAny _ A.in1 (if (_ : Bool) = true then (mkInt (acc i + k) >>= _) else _) _ _ _
    split
    rotate_left
    · rename_i hneg
      exact absurd hc hneg
    refine wpAny_bind (wpAny_mkInt ?_)
    show wpAny _ A.in1 (updateSeq S (fun _ => #[.int (acc i + k) s1.toks]) >>= _) _ _ _
    refine wpAny_bind ?_
    have hup : ∀ b, b ≠ S → (s1.heap.update S (Obj.mapSeq fun _ => #[.int (acc i + k) s1.toks])).get? b = s1.heap.get? b := fun b hb => Heap.get?_update_other _ _ (Ne.symm hb)
    have hSn : (s1.heap.update S (Obj.mapSeq fun _ => #[.int (acc i + k) s1.toks])).get? S = _ := Heap.get?_update_self _ hS1 rfl
    obtain ⟨q1, q2, q3, q4, q5⟩ := gb1.inv.pin (S, _) (List.mem_append_right _ (mem_pinsAt (by simp) hS1))
    obtain ⟨oa, eoa⟩ := hpa1 a (by simp)
    obtain ⟨p1, p2, p3, p4, p5⟩ := gb1.inv.pin (a, oa) (List.mem_append_right _ (mem_pinsAt (by simp) eoa))
    have I0 : Inv X [(a, oa)] σ H1 s1 := gb1.inv.pins_of fun p hp => by
      have e : p = (a, oa) := by simpa using hp
      subst e
      exact ⟨p1, p2, p3, p4, p5⟩
    have I1 : Inv X [(a, oa)] σ H1 { s1 with heap := s1.heap.update S (Obj.mapSeq fun _ => #[.int (acc i + k) s1.toks]), toks := s1.toks + 1 } :=
      I0.turned (it := S) (fun b o hb e => (hup b hb).trans e) q2 q3 (.inr hS0) hcS fun p hp => by
        rw [hpn] at hp
        have e : p = (a, oa) := by simpa using hp
        subst e
        exact haS
    have pe : pinsAt [a, S] (s1.heap.update S (Obj.mapSeq fun _ => #[.int (acc i + k) s1.toks])) = [(a, oa), (S, Obj.mapSeq (fun _ => #[.int (acc i + k) s1.toks]) { cls := .type "list", dict := none, data := .seq #[.int (acc i) tA] c, slots := #[] })] := by
      unfold pinsAt
      rw [List.filterMap_cons, hup a haS, eoa, List.filterMap_cons, hSn]
      rfl
    have I2 : Inv X (pinsAt [a, S] (s1.heap.update S (Obj.mapSeq fun _ => #[.int (acc i + k) s1.toks]))) σ H1 { s1 with heap := s1.heap.update S (Obj.mapSeq fun _ => #[.int (acc i + k) s1.toks]), toks := s1.toks + 1 } := by
      rw [pe]
      refine I1.pins_of fun p hp => ?_
      rcases List.mem_cons.mp hp with e | hp
      · subst e
        exact ⟨(hup a haS).trans p1, p2, p3, p4, p5⟩
      · have e := List.mem_singleton.mp hp
        subst e
        exact ⟨hSn, q2, q3, q4, fun v => nofun⟩
    refine wpAny_updateSeq hS1 rfl (wpAny_pure ⟨plainId_quiet F.plain_sum_loop _, ih (i + 1) _ H1 s1.toks _ (by omega) (by rw [hk]; exact hSn) (fun b hb => ?_) ?_ ⟨I2, ?_, gb1.fr⟩ w1⟩)
    · rcases List.mem_cons.mp hb with e | hb
      · rw [e]; exact ⟨oa, (hup a haS).trans eoa⟩
      · rw [List.mem_singleton.mp hb]; exact ⟨_, hSn⟩
    · obtain ⟨⟨o, nm, qn, ho, r⟩, goes⟩ := at1
      exact ⟨⟨o, nm, qn, (hup a haS).trans ho, r⟩, goes⟩
    · exact hT _ _ _ gb1.tn fun b hb o e => (hup b fun z => hfS (z ▸ hb)).trans e
end
end FDG
end

section
set_option Elab.async false
set_option linter.all false
set_option maxRecDepth 100000
set_option maxHeartbeats 4000000
/-! FD16: any, all, sum of a generator expression: the rules. -/
namespace FDG
open PySem PySem.Spec PyProof.Rows L2 GenW FD
section
variable {X : Cx} {E : Fx} {tg elt iter : Expr} {scope : Scope} {own : List (Str × Nat)} {is vs : List Nat} {fi : DE → Option (List PyData)} {gt : PyData → DE → Option DE} {te : DE → Option DV} {p pos gpos : Pos} {k : Nat} {c P : Addr} {env : DE}
abbrev gx (X : Cx) (s4 : Shared) (H2 : Hp) (scope : Scope) (code : Value) (fp : List Addr) : Cx := X.gen X.A.in1.in1 s4 H2 (cenvOf X scope s4.heap.objs.size code) fp
theorem room_gen (hr : Room (k + 2) X.A) {cenv : Env} : Room k (X.A.in1.in1.deeper cenv) := by
  refine ⟨hr.hd, ?_, ?_⟩
  · have := hr.dp
    show X.A.depth + 1 + 3 * k + 5 < _
    omega
  · have := hr.un
    show X.A.units + 1 + 1 + 3 + 16 * k + 200 < _
    omega
theorem tab_grow {T : List Addr} {S H H2 : Hp} (hP : P ∈ T) (sh : Sub S H) (tb : ∀ P ∈ T, GxR.TabG H P ∧ S P = none) (t : GxR.Tabbed P H H2) : Grow T S H S H2 where
  ss := Sub.refl S
  sh := fun b o e => by
    have n : b ≠ P := fun z => by rw [z, (tb P hP).2] at e; cases e
    rw [t.2 b n]; exact sh b o e
  hh := fun b o n e => by
    have n : b ≠ P := fun z => n (z ▸ hP)
    rw [t.2 b n]; exact e
  nw := fun _ _ _ m => m
  tb := fun P' hP' => by
    by_cases e : P' = P
    · rw [e]; exact t.1
    · obtain ⟨ps, e1, r⟩ := (tb P' hP').1
      exact ⟨ps, by rw [t.2 P' e]; exact e1, r⟩
/-- what a generator expression needs of its text and place -/
structure GenOk (X : Cx) (P : Addr) (iter : Expr) (scope : Scope) (own : List (Str × Nat)) : Prop where
  ok : BlkOk X.N X.env.scope scope own
  hN : X.N.Nodup
  hcell : ∀ y ∈ scope.names, y.2 ≠ .cell
  hco : scope.isCoroutine = false
  hdot : scope.names.lookup (".0" : Str) = some NameKind.local
  hs : ∀ v, genFold iter X.env v = pure v
theorem made_ctx {pins : List (Addr × Obj)} {σ : L2.St} {H2 : Hp} {J : It} {a it : Addr} {fp : List Addr} {tn : Nat → Heap → Prop} {gno : Nat} {s4 s5 : Shared} {code : Value} (hr : Room k X.A) (hst : X.A.frames = some X.stack) (m : Made X pins σ H2 tg elt iter scope vs gpos J a s5 it fp tn gno s4 code) :
    (gx X s4 H2 scope code fp).Ok ∧ GB (gx X s4 H2 scope code fp) fp tn (wipe σ vs) (pinsAt [a] s5.heap) 0 H2 s5 ∧ ∀ b ∈ fp, b < a := by
  have I := m.inv5 X.A.in1.in1 hr.hd hst
  exact ⟨I.ok, ⟨I, m.tn5, fun b hb => (m.fpok b hb).1.1⟩, fun b hb => Nat.lt_trans (m.fpok b hb).2 m.lt⟩
theorem made_back {pins pins' : List (Addr × Obj)} {σ σ' : L2.St} {H2 H' : Hp} {J : It} {a it : Addr} {fp : List Addr} {tn : Nat → Heap → Prop} {gno : Nat} {s4 s5 s' : Shared} {code : Value} (m : Made X pins σ H2 tg elt iter scope vs gpos J a s5 it fp tn gno s4 code)
    (I : Inv (gx X s4 H2 scope code fp) pins' σ' H' s') : Inv X pins σ H' s' :=
  m.inv.call' (ch := fp) I.os I.base I.hok I.bare fun b hb => ⟨(m.fpok b hb).1.2.2.2.1, (m.fpok b hb).1.2.1, (m.fpok b hb).1.2.2.2.2.1, (m.fpok b hb).1.2.2.2.2.2⟩
theorem made_aside {H2 : Hp} {fp pa : List Addr} {s4 : Shared} {code : Value} (ok : (gx X s4 H2 scope code fp).Ok) (hlt : ∀ b ∈ fp, b ∉ pa) : Aside (gx X s4 H2 scope code fp) pa fp :=
  ⟨fun b hb => ⟨(ok.exf b hb).1, ok.exfs b hb, .inl hb, (ok.exf b hb).2, fun p hp => absurd hp (by simp), hlt b hb⟩⟩
/-- the generator made over data, ahead of its first turn -/
theorem made_at {pins : List (Addr × Obj)} {σ : L2.St} {H2 S1 : Hp} {J : It} {a it : Addr} {fp pa : List Addr} {tn : Nat → Heap → Prop} {gno n : Nat} {s4 s5 s6 : Shared} {code : Value} {Yd : Nat → V → Hp → Prop} {Wd : Nat → Hp → Prop} (G : GenOk X P iter scope own) (hc : X.calm = true)
    (m : Made X pins σ H2 tg elt iter scope vs gpos J a s5 it fp tn gno s4 code) (as : Aside (gx X s4 H2 scope code fp) pa fp) (pg : PG (gx X s4 H2 scope code fp) tg (tG E is gt)) (pe : PE (gx X s4 H2 scope code fp) elt (tE E .val te)) (his : ∀ i ∈ is, i ∈ vs)
    (hW : ∀ i H, Wd i H → (i = n ∧ J.stop i H) ∨ (i < n ∧ J.go i H ∧ ∀ x H', J.yld i H x H' → tG E is gt x (wipe σ vs) H' fun σ2 H2 => wipe σ2 vs = wipe σ vs ∧ tE E .val te σ2 H2 (Yd i)))
    (hg : s6.heap.IsGen a gno) (hgs : s6.gens = s5.gens) : GAt (gx X s4 H2 scope code fp) X.A.in1 fp pa tn (wipe σ vs) n gno Yd Wd a 0 s6 :=
  have h := m.gs
  have h := (congrArg (fun g : Array GenState => g[gno]?) hgs).trans h
  ⟨hg, _, h, fun s'' H'' gb w => ⟨rfl, seg_start (X := gx X s4 H2 scope code fp) (A := X.A.in1.in1) (by show scope.isCoroutine = false; exact G.hco) rfl (fun G => over_gen _ _ _) hc m.turn as pg pe hW s'' s'' H'' gb w⟩⟩

/-! ### any, all -/
def anyGo (z : Bool) (vs : List Nat) (gt : PyData → DE → Option DE) (te : DE → Option DV) (env : DE) : List PyData → Option Bool
  | [] => some (!z)
  | d :: ds => (gt d (wipeD env vs)).bind fun e2 => (te e2).bind fun y => match y with
    | .dat (.bool b) => if b = z then some z else anyGo z vs gt te env ds
    | _ => none
def eAny (z : Bool) (vs : List Nat) (fi : DE → Option (List PyData)) (gt : PyData → DE → Option DE) (te : DE → Option DV) : DE → Option DV := fun env => (fi env).bind fun ds => (anyGo z vs gt te env ds).map fun b => dB b
def WdA (z res : Bool) (vs : List Nat) (gt : PyData → DE → Option DE) (te : DE → Option DV) (env : DE) (ds : List PyData) (T : List Addr) (S1 H2 : Hp) (i : Nat) (H : Hp) : Prop := i ≤ ds.length ∧ ∃ S3, Grow T S1 H2 S3 H ∧ anyGo z vs gt te env (ds.drop i) = some res
def YdA (z res : Bool) (vs : List Nat) (gt : PyData → DE → Option DE) (te : DE → Option DV) (env : DE) (ds : List PyData) (T : List Addr) (S1 H2 : Hp) (i : Nat) (y : V) (H : Hp) : Prop := i < ds.length ∧ ∃ S3 b, Grow T S1 H2 S3 H ∧ y = .bl b ∧ if b = z then res = z else anyGo z vs gt te env (ds.drop (i + 1)) = some res
theorem drop_at {ds : List PyData} {i : Nat} {d : PyData} (e : ds[i]? = some d) : ds.drop i = d :: ds.drop (i + 1) := by
  obtain ⟨h1, h2⟩ := List.getElem?_eq_some_iff.mp e
  rw [List.drop_eq_getElem_cons h1, h2]
theorem hW_any {z res : Bool} {σ : L2.St} {S1 H2 : Hp} {J : It} {ds : List PyData} (rel : RelE E env σ S1 H2) (it : IterD E.T S1 J ds) (i : Nat) (H3 : Hp) (w : WdA z res vs gt te env ds E.T S1 H2 i H3) :
    (i = ds.length ∧ J.stop i H3) ∨ (i < ds.length ∧ J.go i H3 ∧ ∀ x H', J.yld i H3 x H' → tG E is gt x (wipe σ vs) H' fun σ2 H2' => wipe σ2 vs = wipe σ vs ∧ tE E .val te σ2 H2' (YdA z res vs gt te env ds E.T S1 H2 i)) ∨ ¬ (∀ j ∈ is, j ∈ vs) := by
  by_cases his : ∀ j ∈ is, j ∈ vs
  rotate_left
  · exact .inr (.inr his)
  obtain ⟨hle, S3, g3, hgo⟩ := w
  have r3 := rel.grow g3
  have it3 := it S3 H3 g3.ss g3.sh r3.tb i
  by_cases hlt : i < ds.length
  · have ed : ds[i]? = some ds[i] := List.getElem?_eq_getElem hlt
    obtain ⟨go, yl⟩ := it3.1 _ ed
    refine .inr (.inl ⟨hlt, go, fun x H4 y => ?_⟩)
    obtain ⟨S4, g4, hx⟩ := yl x H4 y
    rw [drop_at ed] at hgo
    unfold anyGo at hgo
    obtain ⟨e2, ege, hgo⟩ := Option.bind_eq_some_iff.mp hgo
    obtain ⟨yv, ey, hgo⟩ := Option.bind_eq_some_iff.mp hgo
    split at hgo
    rotate_left
    · cases hgo
    rename_i b
    refine ⟨S4, wipeD env vs, ds[i], e2, (r3.grow g4).wipe vs, hx, ege, fun σ2 st r2 => ⟨(st.wp vs his).trans (wipe_in fun i hi => hi), S4, e2, _, r2, ey, fun v S5 H5 g5 hv => ?_⟩⟩
    cases hv
    refine ⟨hlt, S5, b, g3.trans (g4.trans g5), rfl, ?_⟩
    split at hgo
    · rename_i hb; rw [if_pos hb]; exact (Option.some.inj hgo).symm
    · rename_i hb; rw [if_neg hb]; exact hgo
  · have e : i = ds.length := by omega
    exact .inl ⟨e, it3.2 (by omega)⟩
theorem pd_any (hr : Room k X.A) (hc : X.calm = true) (hP : P ∈ E.T) (hm : X.mg "any" = none) (TB : GxR.TabB X.base X.mg c P) (hcode : X.env.code = .ref c) (G : GenOk X P iter scope own) (hi : PI X tg iter (tI E fi)) (his : ∀ i ∈ is, i ∈ own.map (·.2))
    (hg : ∀ (s4 : Shared) (H2 : Hp) (code : Value) (fp : List Addr), PG (gx X s4 H2 scope code fp) tg (tG E is gt)) (he : ∀ (s4 : Shared) (H2 : Hp) (code : Value) (fp : List Addr), PE (gx X s4 H2 scope code fp) elt (tE E .val te)) (hgl : Gl X "any" := by rfl)
    (hse : starEach [.GeneratorExp elt [⟨tg, iter, [], 0⟩] scope gpos] X.env = (false, eval (.GeneratorExp elt [⟨tg, iter, [], 0⟩] scope gpos) X.env) :: starEach [] X.env := by rfl) :
    PE X (.Call (.Name "any" p) [.GeneratorExp elt [⟨tg, iter, [], 0⟩] scope gpos] [] pos) (tE E .val (eAny true (own.map (·.2)) fi gt te)) := by
  refine ⟨fun pins s σ H Q I ⟨S, env, x, rel, e, k⟩ => ?_⟩
  unfold eAny at e
  obtain ⟨ds, eds, e⟩ := Option.bind_eq_some_iff.mp e
  obtain ⟨res, eres, rfl⟩ := Option.map_eq_some_iff.mp e
  refine wpAny_Call_Name_kw (ld_blt I hgl hm boot_any ?_)
  refine PyProof.Rows.callWith_builtin1 ?_ hse (by rfl)
  rw [hse]
  show wpAny _ _ (spliced ((false, eval (.GeneratorExp elt [⟨tg, iter, [], 0⟩] scope gpos) X.env) :: backTo pos (starEach [] X.env))) _ _ s
  refine Calls.spliced_cons (gen_make (R := fun J H2 => ∃ S1, Grow E.T S H S1 H2 ∧ IterD E.T S1 J ds) hr TB hcode hi G.ok G.hN G.hcell G.hco G.hdot G.hs I ⟨S, env, ds, rel, eds, fun J S1 H1 g it => ⟨g.tb P hP, fun H2 t => ⟨S1, g.trans (tab_grow hP g.sh (rel.grow g).tb t), it⟩⟩⟩ fun J H2 a s5 it fp tn gno s4 code hR m => ?_)
  obtain ⟨S1, g1, itd⟩ := hR
  have rel1 := rel.grow g1
  refine Calls.spliced_nil ?_
  refine call_function_tree F.kind_any F.plain_any F.entry_any (F.args_any1 _) ?_
  unfold Builtin.«any»
  refine wpAny_bind (m := oneArg "any" _) (wpAny_pure ?_)
  refine wpAny_bind (wpAny_pyIter_gen m.gen ?_)
  obtain ⟨ok, gb, hlt⟩ := made_ctx hr I.ok.frames m
  have as := made_aside (pa := [a]) ok fun b hb z => by
    rw [List.mem_singleton] at z
    exact absurd (hlt b hb) (by rw [z]; exact Nat.lt_irrefl _)
  refine wpAny_pure ⟨plainId_quiet F.plain_any_loop _, any_loop (X := gx X s4 H2 scope code fp) (A := X.A) (pa := [a]) (fun b H' => b = res ∧ ∃ S3, Grow E.T S1 H2 S3 H') (Yd := YdA true res (own.map (·.2)) gt te env ds E.T S1 H2) (Wd := WdA true res (own.map (·.2)) gt te env ds E.T S1 H2)
    hr.hd (by have := hr.dp; omega) (by simp) (fun H' w => ?_) (fun i y H' yd => ?_) (fun b s' pins' H' I' hf => ?_) ds.length 0 s5 H2 (Nat.zero_add _) (fun b hb => ?_)
    (made_at (S1 := S1) G hc m as (hg s4 H2 code fp) (he s4 H2 code fp) his (fun i H3 w => ?_) m.gen rfl) gb ⟨Nat.zero_le _, S1, Grow.refl rel1.sh rel1.tabs, eres⟩⟩
  · obtain ⟨_, S3, g3, hgo⟩ := w
    rw [List.drop_length] at hgo
    exact ⟨(Option.some.inj hgo), S3, g3⟩
  · obtain ⟨hl, S3, b, g3, rfl, hb⟩ := yd
    refine ⟨b, rfl, ?_⟩
    cases b with
    | true =>
      rw [if_pos rfl] at hb
      rw [if_pos rfl]
      exact ⟨hb.symm, S3, g3⟩
    | false =>
      rw [if_neg Bool.false_ne_true] at hb
      rw [if_neg Bool.false_ne_true]
      exact ⟨hl, S3, g3, hb⟩
  · obtain ⟨rfl, S3, g3⟩ := hf
    exact ⟨.bl b, H', made_back m I', rfl, k _ S3 H' (g1.trans g3) (Dq.bl _)⟩
  · rw [List.mem_singleton.mp hb]
    obtain ⟨o, _, _, ho, _⟩ := m.gen
    exact ⟨_, ho⟩
  · rcases hW_any (is := is) rel1 itd i H3 w with h | h | h
    · exact .inl h
    · exact .inr h
    · exact absurd his h
theorem pd_all (hr : Room k X.A) (hc : X.calm = true) (hP : P ∈ E.T) (hm : X.mg "all" = none) (boot_all' : bootBuiltins "all" = some (.builtin "all")) (TB : GxR.TabB X.base X.mg c P) (hcode : X.env.code = .ref c) (G : GenOk X P iter scope own) (hi : PI X tg iter (tI E fi)) (his : ∀ i ∈ is, i ∈ own.map (·.2))
    (hg : ∀ (s4 : Shared) (H2 : Hp) (code : Value) (fp : List Addr), PG (gx X s4 H2 scope code fp) tg (tG E is gt)) (he : ∀ (s4 : Shared) (H2 : Hp) (code : Value) (fp : List Addr), PE (gx X s4 H2 scope code fp) elt (tE E .val te)) (hgl : Gl X "all" := by rfl)
    (hse : starEach [.GeneratorExp elt [⟨tg, iter, [], 0⟩] scope gpos] X.env = (false, eval (.GeneratorExp elt [⟨tg, iter, [], 0⟩] scope gpos) X.env) :: starEach [] X.env := by rfl) :
    PE X (.Call (.Name "all" p) [.GeneratorExp elt [⟨tg, iter, [], 0⟩] scope gpos] [] pos) (tE E .val (eAny false (own.map (·.2)) fi gt te)) := by
  refine ⟨fun pins s σ H Q I ⟨S, env, x, rel, e, k⟩ => ?_⟩
  unfold eAny at e
  obtain ⟨ds, eds, e⟩ := Option.bind_eq_some_iff.mp e
  obtain ⟨res, eres, rfl⟩ := Option.map_eq_some_iff.mp e
  refine wpAny_Call_Name_kw (ld_blt I hgl hm boot_all' ?_)
  refine PyProof.Rows.callWith_builtin1 ?_ hse (by rfl)
  rw [hse]
  show wpAny _ _ (spliced ((false, eval (.GeneratorExp elt [⟨tg, iter, [], 0⟩] scope gpos) X.env) :: backTo pos (starEach [] X.env))) _ _ s
  refine Calls.spliced_cons (gen_make (R := fun J H2 => ∃ S1, Grow E.T S H S1 H2 ∧ IterD E.T S1 J ds) hr TB hcode hi G.ok G.hN G.hcell G.hco G.hdot G.hs I ⟨S, env, ds, rel, eds, fun J S1 H1 g it => ⟨g.tb P hP, fun H2 t => ⟨S1, g.trans (tab_grow hP g.sh (rel.grow g).tb t), it⟩⟩⟩ fun J H2 a s5 it fp tn gno s4 code hR m => ?_)
  obtain ⟨S1, g1, itd⟩ := hR
  have rel1 := rel.grow g1
  refine Calls.spliced_nil ?_
  refine call_function_tree F.kind_all F.plain_all F.entry_all (F.args_all1 _) ?_
  unfold Builtin.«all»
  refine wpAny_bind (m := oneArg "all" _) (wpAny_pure ?_)
  refine wpAny_bind (wpAny_pyIter_gen m.gen ?_)
  obtain ⟨ok, gb, hlt⟩ := made_ctx hr I.ok.frames m
  have as := made_aside (pa := [a]) ok fun b hb z => by
    rw [List.mem_singleton] at z
    exact absurd (hlt b hb) (by rw [z]; exact Nat.lt_irrefl _)
  refine wpAny_pure ⟨plainId_quiet F.plain_all_loop _, all_loop (X := gx X s4 H2 scope code fp) (A := X.A) (pa := [a]) (fun b H' => b = res ∧ ∃ S3, Grow E.T S1 H2 S3 H') (Yd := YdA false res (own.map (·.2)) gt te env ds E.T S1 H2) (Wd := WdA false res (own.map (·.2)) gt te env ds E.T S1 H2)
    hr.hd (by have := hr.dp; omega) (by simp) (fun H' w => ?_) (fun i y H' yd => ?_) (fun b s' pins' H' I' hf => ?_) ds.length 0 s5 H2 (Nat.zero_add _) (fun b hb => ?_)
    (made_at (S1 := S1) G hc m as (hg s4 H2 code fp) (he s4 H2 code fp) his (fun i H3 w => ?_) m.gen rfl) gb ⟨Nat.zero_le _, S1, Grow.refl rel1.sh rel1.tabs, eres⟩⟩
  · obtain ⟨_, S3, g3, hgo⟩ := w
    rw [List.drop_length] at hgo
    exact ⟨(Option.some.inj hgo), S3, g3⟩
  · obtain ⟨hl, S3, b, g3, rfl, hb⟩ := yd
    refine ⟨b, rfl, ?_⟩
    cases b with
    | false =>
      rw [if_pos rfl] at hb
      rw [if_neg Bool.false_ne_true]
      exact ⟨hb.symm, S3, g3⟩
    | true =>
      rw [if_neg (by decide)] at hb
      rw [if_pos rfl]
      exact ⟨hl, S3, g3, hb⟩
  · obtain ⟨rfl, S3, g3⟩ := hf
    exact ⟨.bl b, H', made_back m I', rfl, k _ S3 H' (g1.trans g3) (Dq.bl _)⟩
  · rw [List.mem_singleton.mp hb]
    obtain ⟨o, _, _, ho, _⟩ := m.gen
    exact ⟨_, ho⟩
  · rcases hW_any (is := is) rel1 itd i H3 w with h | h | h
    · exact .inl h
    · exact .inr h
    · exact absurd his h

/-! ### sum -/
def intGo (vs : List Nat) (gt : PyData → DE → Option DE) (te : DE → Option DV) (env : DE) : List PyData → Option (List Int)
  | [] => some []
  | d :: ds => (gt d (wipeD env vs)).bind fun e2 => (te e2).bind fun y => match y with
    | .dat (.int k) => (intGo vs gt te env ds).map (k :: ·)
    | _ => none
def sumOk (ks : List Int) : Bool := decide (ks.length ≤ 1000) && ks.all fun k => decide (-(2 ^ 40) ≤ k) && decide (k ≤ 2 ^ 40)
def eSumG (vs : List Nat) (fi : DE → Option (List PyData)) (gt : PyData → DE → Option DE) (te : DE → Option DV) : DE → Option DV := fun env => (fi env).bind fun ds => (intGo vs gt te env ds).bind fun ks => if sumOk ks = true then some (.dat (.int ks.sum)) else none
theorem sum_bound {ks : List Int} (h : ∀ k ∈ ks, -(2 ^ 40) ≤ k ∧ k ≤ 2 ^ 40) : -(2 ^ 40 * (ks.length : Int)) ≤ ks.sum ∧ ks.sum ≤ 2 ^ 40 * (ks.length : Int) := by
  induction ks with
  | nil => simp
  | cons k r ih =>
    have h1 := h k (List.mem_cons_self ..)
    have h2 := ih fun j hj => h j (List.mem_cons_of_mem _ hj)
    rw [List.sum_cons, List.length_cons]
    push_cast
    omega
theorem sum_take {ks : List Int} (h : sumOk ks = true) (i : Nat) : InLong ((ks.take i).sum) := by
  unfold sumOk at h
  rw [Bool.and_eq_true, decide_eq_true_eq, List.all_eq_true] at h
  have h2 := sum_bound (ks := ks.take i) fun k hk => by
    have := h.2 k (List.mem_of_mem_take hk)
    simp only [Bool.and_eq_true, decide_eq_true_eq] at this
    exact this
  have h3 : (ks.take i).length ≤ ks.length := by rw [List.length_take]; omega
  unfold InLong
  omega
def WdS (ks : List Int) (vs : List Nat) (gt : PyData → DE → Option DE) (te : DE → Option DV) (env : DE) (ds : List PyData) (T : List Addr) (S1 H2 : Hp) (i : Nat) (H : Hp) : Prop := i ≤ ds.length ∧ ∃ S3, Grow T S1 H2 S3 H ∧ intGo vs gt te env (ds.drop i) = some (ks.drop i) ∧ i ≤ ks.length
def YdS (ks : List Int) (vs : List Nat) (gt : PyData → DE → Option DE) (te : DE → Option DV) (env : DE) (ds : List PyData) (T : List Addr) (S1 H2 : Hp) (i : Nat) (y : V) (H : Hp) : Prop := i < ds.length ∧ ∃ S3 k, Grow T S1 H2 S3 H ∧ y = .int k ∧ ks[i]? = some k ∧ intGo vs gt te env (ds.drop (i + 1)) = some (ks.drop (i + 1))
theorem hW_sum {ks : List Int} {σ : L2.St} {S1 H2 : Hp} {J : It} {ds : List PyData} (rel : RelE E env σ S1 H2) (it : IterD E.T S1 J ds) (his : ∀ j ∈ is, j ∈ vs) (i : Nat) (H3 : Hp) (w : WdS ks vs gt te env ds E.T S1 H2 i H3) :
    (i = ds.length ∧ J.stop i H3) ∨ (i < ds.length ∧ J.go i H3 ∧ ∀ x H', J.yld i H3 x H' → tG E is gt x (wipe σ vs) H' fun σ2 H2' => wipe σ2 vs = wipe σ vs ∧ tE E .val te σ2 H2' (YdS ks vs gt te env ds E.T S1 H2 i)) := by
  obtain ⟨hle, S3, g3, hgo, hlk⟩ := w
  have r3 := rel.grow g3
  have it3 := it S3 H3 g3.ss g3.sh r3.tb i
  by_cases hlt : i < ds.length
  · have ed : ds[i]? = some ds[i] := List.getElem?_eq_getElem hlt
    obtain ⟨go, yl⟩ := it3.1 _ ed
    refine .inr ⟨hlt, go, fun x H4 y => ?_⟩
    obtain ⟨S4, g4, hx⟩ := yl x H4 y
    rw [drop_at ed] at hgo
    unfold intGo at hgo
    obtain ⟨e2, ege, hgo⟩ := Option.bind_eq_some_iff.mp hgo
    obtain ⟨yv, ey, hgo⟩ := Option.bind_eq_some_iff.mp hgo
    split at hgo
    rotate_left
    · cases hgo
    rename_i k
    obtain ⟨rest, er, eks⟩ := Option.map_eq_some_iff.mp hgo
    refine ⟨S4, wipeD env vs, ds[i], e2, (r3.grow g4).wipe vs, hx, ege, fun σ2 st r2 => ⟨(st.wp vs his).trans (wipe_in fun i hi => hi), S4, e2, _, r2, ey, fun v S5 H5 g5 hv => ?_⟩⟩
    cases hv
    have hk : ks[i]? = some k := by
      have : (ks.drop i)[0]? = some k := by rw [← eks]; rfl
      rw [List.getElem?_drop] at this
      simpa using this
    refine ⟨hlt, S5, k, g3.trans (g4.trans g5), rfl, hk, ?_⟩
    have : rest = ks.drop (i + 1) := by
      have : (ks.drop i).tail = rest := by rw [← eks]; rfl
      rw [← this, List.tail_drop]
    rw [← this]
    exact er
  · have e : i = ds.length := by omega
    exact .inl ⟨e, it3.2 (by omega)⟩
theorem intGo_length {env : DE} : ∀ {ds : List PyData} {ks : List Int}, intGo vs gt te env ds = some ks → ks.length = ds.length
  | [], ks, h => by cases h; rfl
  | d :: ds, ks, h => by
    unfold intGo at h
    obtain ⟨e2, ege, h⟩ := Option.bind_eq_some_iff.mp h
    obtain ⟨yv, ey, h⟩ := Option.bind_eq_some_iff.mp h
    split at h
    · obtain ⟨rest, er, rfl⟩ := Option.map_eq_some_iff.mp h
      rw [List.length_cons, List.length_cons, intGo_length er]
    · cases h
theorem pd_sumG (hr : Room k X.A) (hc : X.calm = true) (hP : P ∈ E.T) (hm : X.mg "sum" = none) (hbs : bootBuiltins "sum" = some (.builtin "sum")) (TB : GxR.TabB X.base X.mg c P) (hcode : X.env.code = .ref c) (G : GenOk X P iter scope own) (hi : PI X tg iter (tI E fi)) (his : ∀ i ∈ is, i ∈ own.map (·.2))
    (hg : ∀ (s4 : Shared) (H2 : Hp) (code : Value) (fp : List Addr), PG (gx X s4 H2 scope code fp) tg (tG E is gt)) (he : ∀ (s4 : Shared) (H2 : Hp) (code : Value) (fp : List Addr), PE (gx X s4 H2 scope code fp) elt (tE E .val te)) (hgl : Gl X "sum" := by rfl)
    (hse : starEach [.GeneratorExp elt [⟨tg, iter, [], 0⟩] scope gpos] X.env = (false, eval (.GeneratorExp elt [⟨tg, iter, [], 0⟩] scope gpos) X.env) :: starEach [] X.env := by rfl) :
    PE X (.Call (.Name "sum" p) [.GeneratorExp elt [⟨tg, iter, [], 0⟩] scope gpos] [] pos) (tE E .val (eSumG (own.map (·.2)) fi gt te)) := by
  refine ⟨fun pins s σ H Q I ⟨S, env, x, rel, e, k⟩ => ?_⟩
  unfold eSumG at e
  obtain ⟨ds, eds, e⟩ := Option.bind_eq_some_iff.mp e
  obtain ⟨ks, eks, e⟩ := Option.bind_eq_some_iff.mp e
  obtain ⟨hks, rfl⟩ : sumOk ks = true ∧ x = .dat (.int ks.sum) := by
    split at e
    · rename_i h; cases e; exact ⟨h, rfl⟩
    · cases e
  have hlk := intGo_length eks
  refine wpAny_Call_Name_kw (ld_blt I hgl hm hbs ?_)
  refine PyProof.Rows.callWith_builtin1 ?_ hse (by rfl)
  rw [hse]
  show wpAny _ _ (spliced ((false, eval (.GeneratorExp elt [⟨tg, iter, [], 0⟩] scope gpos) X.env) :: backTo pos (starEach [] X.env))) _ _ s
  refine Calls.spliced_cons (gen_make (R := fun J H2 => ∃ S1, Grow E.T S H S1 H2 ∧ IterD E.T S1 J ds) hr TB hcode hi G.ok G.hN G.hcell G.hco G.hdot G.hs I ⟨S, env, ds, rel, eds, fun J S1 H1 g it => ⟨g.tb P hP, fun H2 t => ⟨S1, g.trans (tab_grow hP g.sh (rel.grow g).tb t), it⟩⟩⟩ fun J H2 a s5 it fp tn gno s4 code hR m => ?_)
  obtain ⟨S1, g1, itd⟩ := hR
  have rel1 := rel.grow g1
  refine Calls.spliced_nil ?_
  refine call_function_tree F.kind_sum F.plain_sum F.entry_sum (F.args_sum1 _) ?_
  unfold Builtin.«sum»
  simp only [List.length_cons, List.length_nil]
  rw [if_neg (by decide)]
  refine wpAny_bind (wpAny_of_eq (show Builtin.Builtins.bindParams "sum" ["start"] 0 { } = pure [none] from rfl) ?_)
  refine wpAny_bind (wpAny_pyIter_gen m.gen ?_)
  refine wpAny_bind (wpAny_mkInt ?_)
  refine wpAny_bind (wpAny_pure ?_)
  simp only [List.forIn_cons, List.forIn_nil]
  refine wpAny_bind (wpAny_bind (wpAny_bind (wpAny_isInstance (T := "int") (b := false) (typeIs_int _ _ _) PySem.sub_int_str ?_)))
  simp only [Bool.false_eq_true, if_false]
  refine wpAny_pure (wpAny_bind (wpAny_bind (wpAny_isInstance (T := "int") (b := false) (typeIs_int _ _ _) PySem.sub_int_bytes ?_)))
  simp only [Bool.false_eq_true, if_false]
  refine wpAny_pure (wpAny_bind (wpAny_bind (wpAny_isInstance (T := "int") (b := false) (typeIs_int _ _ _) PySem.sub_int_bytearray ?_)))
  simp only [Bool.false_eq_true, if_false]
  refine wpAny_pure (wpAny_pure ?_)
  refine wpAny_bind (wpAny_newObj_type ?_)
  obtain ⟨ok, gb, hlt⟩ := made_ctx hr I.ok.frames m
  obtain ⟨oa, oan, oaq, hoa, hoc, hod⟩ := id m.gen
  have hal : a < s5.heap.objs.size := Heap.lt_size hoa
  have haS : a ≠ s5.heap.objs.size := Nat.ne_of_lt hal
  have hfS : s5.heap.objs.size ∉ fp := fun z => absurd (hlt _ z) (Nat.not_lt_of_lt hal)
  have as := made_aside (pa := [a, s5.heap.objs.size]) ok fun b hb z => by
    have h1 := hlt b hb
    rcases List.mem_cons.mp z with z | z
    · rw [z] at h1; exact Nat.lt_irrefl _ h1
    · rw [List.mem_singleton.mp z] at h1; exact Nat.not_lt_of_lt hal h1
  have hs4 : s4.heap.objs.size ≤ s5.heap.objs.size := Nat.le_of_lt (Nat.lt_trans m.lt hal)
  have pe1 : pinsAt [a] s5.heap = [(a, oa)] := by unfold pinsAt; rw [List.filterMap_cons, hoa]; rfl
  have I5 := gb.inv
  rw [pe1] at I5
  generalize hS : ({ cls := .type "list", data := .seq [Value.int 0 s5.toks].toArray } : Obj) = oS
  have kp : ∀ b o, s5.heap.get? b = some o → (s5.heap.push oS).get? b = some o := fun b o e => Heap.get?_push_of_some _ e
  have hSn : (s5.heap.push oS).get? s5.heap.objs.size = some oS := Heap.get?_push_size _ (by rw [← hS] <;> rfl)
  have I6 := I5.kept (t' := s5.toks + 1) kp
  have pe2 : pinsAt [a, s5.heap.objs.size] (s5.heap.push oS) = [(a, oa), (s5.heap.objs.size, oS)] := by
    unfold pinsAt
    rw [List.filterMap_cons, kp _ _ hoa, List.filterMap_cons, hSn]
    rfl
  obtain ⟨f0, f1, f2, f3, f4, f5⟩ := I5.fpOk (Nat.le_refl s5.heap.objs.size) (I5.hok.fresh (Nat.le_refl _))
  have I7 : Inv (gx X s4 H2 scope code fp) (pinsAt [a, s5.heap.objs.size] (s5.heap.push oS)) (wipe σ (own.map (·.2))) H2 { s5 with heap := s5.heap.push oS, toks := s5.toks + 1 } := by
    rw [pe2]
    refine I6.pins_of fun p hp => ?_
    rcases List.mem_cons.mp hp with e | hp
    · subst e
      exact I6.pin (a, oa) (by simp)
    · have e := List.mem_singleton.mp hp
      subst e
      exact ⟨hSn, f0, f1, f2, fun v => by rw [← hS]; nofun⟩
  refine wpAny_pure ⟨plainId_quiet F.plain_sum_loop _, sum_loop (X := gx X s4 H2 scope code fp) (A := X.A) (fun i => (ks.take i).sum) (fun H' => ∃ S3, Grow E.T S1 H2 S3 H') (Yd := YdS ks (own.map (·.2)) gt te env ds E.T S1 H2) (Wd := WdS ks (own.map (·.2)) gt te env ds E.T S1 H2) (n := ds.length) (gno := gno) (tn := tn)
    hr.hd (by have := hr.dp; omega) haS hfS hs4 rfl f4 (fun H' w => ?_) (fun i y H' yd => ?_) m.turn.keep (fun t s' pins' H' I' hf => ?_) ds.length 0 { s5 with heap := s5.heap.push oS, toks := s5.toks + 1 } H2 s5.toks 0 (Nat.zero_add _) ?_ (fun b hb => ?_)
    (made_at (S1 := S1) G hc m as (hg s4 H2 code fp) (he s4 H2 code fp) his (fun i H3 w => hW_sum rel1 itd his i H3 w) ⟨oa, oan, oaq, kp _ _ hoa, hoc, hod⟩ rfl) ⟨I7, ?_, gb.fr⟩ ⟨Nat.zero_le _, S1, Grow.refl rel1.sh rel1.tabs, eks, Nat.zero_le _⟩⟩
  · obtain ⟨_, S3, g3, _⟩ := w
    exact ⟨S3, g3⟩
  · obtain ⟨hl, S3, k, g3, rfl, hk, hgo⟩ := yd
    obtain ⟨hkl, hk'⟩ := List.getElem?_eq_some_iff.mp hk
    refine ⟨k, rfl, ?_, ?_, sum_take hks _, hl, S3, g3, hgo, hkl⟩
    · show (ks.take (i + 1)).sum = (ks.take i).sum + k
      rw [List.take_add_one, hk, List.sum_append]
      simp
    · have h := hks
      unfold sumOk at h
      rw [Bool.and_eq_true, List.all_eq_true] at h
      have := h.2 k (List.mem_of_getElem? hk)
      simp only [Bool.and_eq_true, decide_eq_true_eq] at this
      unfold InLong
      omega
  · obtain ⟨S3, g3⟩ := hf
    refine ⟨.int ks.sum, H', made_back m I', ⟨t, ?_⟩, k _ S3 H' (g1.trans g3) (Dq.int _)⟩
    show Value.int (ks.take ds.length).sum t = _
    rw [← hlk, List.take_length]
  · rw [← hS] at hSn ⊢
    exact hSn
  · rcases List.mem_cons.mp hb with e | hb
    · rw [e]; exact ⟨oa, kp _ _ hoa⟩
    · rw [List.mem_singleton.mp hb]; exact ⟨_, hSn⟩
  · exact m.turn.keep _ _ _ gb.tn fun b _ o e => kp b o e
end
end FDG
end

section
set_option Elab.async false
set_option linter.all false
set_option maxRecDepth 100000
set_option maxHeartbeats 4000000
/-! FD17: small rules, a def's rule by its body. -/
namespace FD
open PySem PySem.Spec PyProof.Rows L2
section
variable {X : Cx} {E : Fx} {m m1 m2 : M} {f f1 f2 f3 : DE → Option DV} {a b c tg : Expr} {pos p q1 : Pos} {T : List Addr} {k : Nat} {x : Str} {id : String}
theorem pd_one {op : BoolOp} (ha : PE X a (tE E m f)) : PE X (.BoolOp op [a] pos) (tE E m f) := ⟨fun pins s σ H Q I q => PyProof.Rows.BoolOp_one (ha.run pins s σ H Q I q)⟩
def dNeg : DV → Option DV
  | .dat (.int i) => some (.dat (.int (-i)))
  | _ => none
theorem pd_neg (ha : PE X a (tE E .val f)) : PE X (.UnaryOp .USub a pos) (tE E .val (e1 dNeg f)) :=
  (pe_un un_neg ha).imp fun σ H Q ⟨S, env, d, rel, e, k⟩ => by
    unfold e1 at e
    obtain ⟨dx, ex, e⟩ := Option.bind_eq_some_iff.mp e
    refine ⟨S, env, dx, rel, ex, fun x S1 H1 g1 hx => ?_⟩
    unfold dNeg at e
    split at e
    · cases e
      cases hx
      exact ⟨_, rfl, k _ S1 H1 g1 (Dq.int _)⟩
    · cases e
end
section
variable {P : Program} {w : World} {K : PySem.W.Frag} {mg : Str → Option Value} {base : Heap} {x : Str} {params : Arguments} {body : List Stmt} {scope : Scope} {fd : FuncData} {N ps : List Str} {k : Nat}
/-- a def by its body; its code object is the one the head tells -/
theorem cal_of {sp : Sp} (F : FunD K x x params body scope [] [] (He.fAd K (x, none)) fd) (hm : mg x = some (.ref (He.fAd K (x, none)))) (S : FnScope N ps scope) (len : ∀ vs H Q E, sp vs H Q E → vs.length = ps.length)
    (hb : ∀ (kV doc pm : Value) (an : Option Addr) (cdv ct : Value) (us : List Value), us.length = ps.length → bindArgs (PySem.W.fnOf x x params body scope .none kV doc pm an cdv ct) ⟨us, []⟩ = pure (ps.zip us))
    (hbody : ∀ (A : Around) (outer : List Env) (s : Shared) (H : Hp) (vs : List V) (Q : VK) (E : XK), Room k (A.deeper (envOfC x scope s.heap.objs.size (He.fAd K (x, none)) (.ref (He.cT K (x, none)).1))) → sp vs H Q E →
      ∃ t, PSs (cxOf C8.CX0 P w K mg base N x scope (He.fAd K (x, none)) (.ref (He.cT K (x, none)).1) A outer s H E).nox body t ∧ t { nx := fun _ H' => Q .non H', rt := Q } (L2.start N vs) H) : C8.Cal P w K mg base (k + 1) x sp [] := by
  have bN : Binds K fd ps [] := F.bindsN hb
  obtain ⟨oc, od, dV, kV, doc, pm, an, cdv, ct, osl, rfl, lk, hcd, _, _⟩ := F.ex
  obtain ⟨c, rfl⟩ := He.codeIn_ref hcd
  have e : (He.cT K (x, none)).1 = c := He.codeOf_eq lk rfl
  rw [e] at hbody
  refine ⟨_, _, ps, [], fn_of lk hcd S len fun A outer s H vs Q E hr hsp => ?_, hm, F.kp, bN, .nil⟩
  obtain ⟨t, h1, h2⟩ := hbody A outer s H vs Q E hr hsp
  exact ⟨t, PSs.nox h1, h2⟩
/-- a def whose body is a function of data -/
theorem cal_fd {g : DE → Option Out} {T : List Addr} (F : FunD K x x params body scope [] [] (He.fAd K (x, none)) fd) (hm : mg x = some (.ref (He.fAd K (x, none)))) (S : FnScope N ps scope)
    (hb : ∀ (kV doc pm : Value) (an : Option Addr) (cdv ct : Value) (us : List Value), us.length = ps.length → bindArgs (PySem.W.fnOf x x params body scope .none kV doc pm an cdv ct) ⟨us, []⟩ = pure (ps.zip us))
    (hbody : ∀ (A : Around) (outer : List Env) (s : Shared) (H : Hp) (E : XK), Room k (A.deeper (envOfC x scope s.heap.objs.size (He.fAd K (x, none)) (.ref (He.cT K (x, none)).1))) →
      PSs (cxOf C8.CX0 P w K mg base N x scope (He.fAd K (x, none)) (.ref (He.cT K (x, none)).1) A outer s H E).nox body (tS ⟨P, w, T⟩ g)) : C8.Cal P w K mg base (k + 1) x (spD ⟨P, w, T⟩ ps.length (fnF N.length g)) [] :=
  cal_of F hm S (fun vs H Q E h => sp_len vs H Q E h) hb fun A outer s H vs Q E hr h => ⟨_, hbody A outer s H E hr, fn_body vs H Q E h⟩
end
def blkB (N : List Str) (sc scope : Scope) (own : List (Str × Nat)) : Bool :=
  decide (scope.kind = .function) && (scope.names.all (fun y => decide (scope.names.lookup y.1 = some y.2)) && (own.all (fun p => decide (N[p.2]? = some p.1)) &&
    (scope.names.all (fun y => !decide (y.2 = .free) || (decide (sc.names.lookup y.1 = some .cell) || decide (sc.names.lookup y.1 = some .free))) &&
      scope.names.all (fun y => !(decide (y.2 = .local) || decide (y.2 = .cell)) || (decide (y.1 ∈ own.map (·.1)) || !decide (y.1 ∈ N))))))
theorem blk_of {N : List Str} {sc scope : Scope} {own : List (Str × Nat)} (h : blkB N sc scope own = true) : BlkOk N sc scope own := by
  unfold blkB at h
  simp only [Bool.and_eq_true, decide_eq_true_eq, List.all_eq_true, Bool.or_eq_true, Bool.not_eq_true', decide_eq_false_iff_not] at h
  obtain ⟨h1, h2, h3, h4, h5⟩ := h
  refine ⟨h1, h2, h3, fun y hy e => (h4 y hy).elim (fun z => absurd e z) fun z => z, fun y hy e => (h5 y hy).elim (fun z => ?_) fun z => z⟩
  simp only [Bool.or_eq_false_iff, decide_eq_false_iff_not] at z
  exact e.elim (fun q => absurd q z.1) fun q => absurd q z.2
/-- what the head tells of names -/
structure MF (mg : Str → Option Value) : Prop where
  len : mg "len" = none
  range : mg "range" = none
  isinstance : mg "isinstance" = none
  int : mg "int" = none
  bool : mg "bool" = none
  tuple : mg "tuple" = none
  list : mg "list" = none
  str : mg "str" = none
  sorted : mg "sorted" = none
  max : mg "max" = none
  sum : mg "sum" = none
  all : mg "all" = none
  any : mg "any" = none
  set : mg "set" = none
  enumerate : mg "enumerate" = none
  la : ∃ t, mg "LEAST_ARMS" = some (.int 3 t)
  ma : ∃ t, mg "MOST_ARMS" = some (.int 4 t)
  ml : ∃ t, mg "MOST_LENGTH" = some (.int 4 t)
  mr : ∃ t, mg "MOST_ROW" = some (.int 40 t)
  mv : ∃ t, mg "MOST_VALUE" = some (.int 100 t)
/-- a def's table of code objects -/
structure TLn (K : PySem.W.Frag) (base : Heap) (mg : Str → Option Value) (T : List Addr) (x : Str) : Prop where
  tb : GxR.TabB base mg (He.cT K (x, none)).1 (He.cT K (x, none)).2
  mem : (He.cT K (x, none)).2 ∈ T
end FD
namespace FD
open PySem PySem.Spec PyProof.Rows L2
def dIs : DV → DV → Option DV
  | x, .dat .none => dIsN x
  | _, _ => none
theorem step_is {E : Fx} : Step2 E .val .val .val (fun x y H Q => y = .non ∧ Q (.bl (decide (x = .non))) H) dIs := by
  intro S H0 H x y dx dy d Q sh tb hx hy e q
  unfold dIs at e
  split at e
  · cases hy
    refine ⟨rfl, q _ S H (Grow.refl sh fun P h => (tb P h).1) ?_⟩
    unfold dIsN at e
    split at e
    · cases e; cases hx; exact Dq.bl _
    · rename_i dd hn
      cases e
      have : x ≠ .non := fun z => by
        subst z
        cases (show Dq S .non dd from hx)
        exact hn rfl
      rw [decide_eq_false this]
      exact Dq.bl _
    · cases e
  · cases e
theorem c_is {X : Cx} {E : Fx} : CmpD X E .Is .val .val dIs := ⟨⟨_, op_isN, step_is⟩, fun x y d e => by
  unfold dIs at e
  split at e
  · unfold dIsN at e
    (repeat' split at e) <;> cases e <;> exact ⟨_, rfl⟩
  · cases e⟩
end FD
namespace FD
/-- the list of a dict's keys, if it is not too long -/
def dKeysL : DV → Option DV := fun x => (dKeys x).bind fun y => match y with
  | .dat (.list ds) => if ds.length ≤ 100000 then some y else none
  | _ => none
end FD
end

section
set_option Elab.async false
set_option linter.all false
set_option maxRecDepth 100000
set_option maxHeartbeats 4000000
/-! the defs of the linked text as functions of data: printed by gen.py. -/
namespace K08
open PySem PySem.Spec PyProof.Rows L2 FD
variable {P : Program} {w : World} {K : PySem.W.Frag} {mg : Str → Option Value} {base : Heap} {fd : FuncData} {T : List Addr}
/-! ### is_in -/
def g_is_in : DE → Option Out := (sSeq (sRet (eAnd (e1 (dIsi "int") (eVar 0)) (eAnd (eNot (e1 (dIsi "bool") (eVar 0))) (eChain dLe dLe (eVar 1) (eVar 0) (eVar 2))))) sNil)
def F_is_in : List DV → Option DV := fnF 3 g_is_in
theorem sc_is_in : FnScope ["value", "least", "most"] ["value", "least", "most"] (defScope (top 10)) := ⟨by rfl, by rfl, by rfl, by decide +kernel, by rfl, by decide +kernel, by decide +kernel⟩
theorem ok_is_in (M : MF mg) (F : FunD K "is_in" "is_in" (defArgs (top 10)) (defBody (top 10)) (defScope (top 10)) [] [] (He.fAd K ("is_in", none)) fd) (hm : mg "is_in" = some (.ref (He.fAd K ("is_in", none)))) : C8.Cal P w K mg base 4 "is_in" (spD ⟨P, w, T⟩ 3 F_is_in) [] := by
  refine cal_fd (k := 3) (N := ["value", "least", "most"]) (ps := ["value", "least", "most"]) (g := g_is_in) F hm sc_is_in (fun _ _ _ _ _ _ us hl => match us, hl with | [_, _, _], _ => rfl) (fun A outer s H E hr => ?_)
  exact (sd_cons (sd_ret (pd_and (pd_isi (.inl rfl) M.isinstance M.int (by rfl) (pd_var (i := 0) (by rfl) (by first | exact .inl rfl | exact .inr (.inl rfl) | exact .inr (.inr rfl)))) (pd_and (pd_not (pd_isi (.inr (.inl rfl)) M.isinstance M.bool (by rfl) (pd_var (i := 0) (by rfl) (by first | exact .inl rfl | exact .inr (.inl rfl) | exact .inr (.inr rfl))))) (pd_one (pd_chain (c_le hr) (c_le hr) (pd_var (i := 1) (by rfl) (by first | exact .inl rfl | exact .inr (.inl rfl) | exact .inr (.inr rfl))) (pd_var (i := 0) (by rfl) (by first | exact .inl rfl | exact .inr (.inl rfl) | exact .inr (.inr rfl))) (pd_var (i := 2) (by rfl) (by first | exact .inl rfl | exact .inr (.inl rfl) | exact .inr (.inr rfl)))))))) sd_nil)
/-! ### near -/
def g_near : DE → Option Out := (sSeq (sIf (eTru (e2 dEq (eVar 2) (eC (.int 0)))) (sSeq (sRet (eLc [5] (iRange (eVar 0)) (gtN 5) tYesF (e2 dAdd (eC (.int 1)) (e2 dMul (eVar 5) (eVar 1))))) sNil) sNil) (sSeq (sSet false 3 (e2 dMod (e2 dSub (eVar 2) (eC (.int 1))) (eVar 1))) (sSeq (sSet true 4 (eLstL (lCons (eIf (eTru (eVar 3)) (e2 dSub (eVar 2) (eC (.int 1))) (eC (.int 0))) lNil))) (sSeq (sIf (eTru (e2 dLt (e2 dAdd (eVar 3) (eC (.int 1))) (eVar 1))) (sSeq (sApp 4 (e2 dAdd (eVar 2) (eC (.int 1)))) sNil) sNil) (sSeq (sRetO 4) sNil)))))
def F_near : List DV → Option DV := fnF 6 g_near
theorem sc_near : FnScope ["arms", "length", "cell", "step", "found", "arm"] ["arms", "length", "cell"] (defScope (top 12)) := ⟨by rfl, by rfl, by rfl, by decide +kernel, by rfl, by decide +kernel, by decide +kernel⟩
theorem ok_near (M : MF mg) (F : FunD K "near" "near" (defArgs (top 12)) (defBody (top 12)) (defScope (top 12)) [] [] (He.fAd K ("near", none)) fd) (hm : mg "near" = some (.ref (He.fAd K ("near", none)))) : C8.Cal P w K mg base 4 "near" (spD ⟨P, w, T⟩ 3 F_near) [] := by
  refine cal_fd (k := 3) (N := ["arms", "length", "cell", "step", "found", "arm"]) (ps := ["arms", "length", "cell"]) (g := g_near) F hm sc_near (fun _ _ _ _ _ _ us hl => match us, hl with | [_, _, _], _ => rfl) (fun A outer s H E hr => ?_)
  exact (sd_cons (sd_if (td_c (c_eq hr) (pd_var (i := 2) (by rfl) (by first | exact .inl rfl | exact .inr (.inl rfl) | exact .inr (.inr rfl))) pd_int) (sd_cons (sd_ret (pd_frz (pd_lc (by rfl) sc_near.nd (id_range M.range (pd_var (i := 0) (by rfl) (by first | exact .inl rfl | exact .inr (.inl rfl) | exact .inr (.inr rfl)))) (own := [(("arm" : PySem.Str), 5)]) (blk_of (N := ["arms", "length", "cell", "step", "found", "arm"]) (sc := defScope (top 12)) (by decide +kernel)) (by decide) (fun _ _ _ _ _ => (gd_name (i := 5) sc_near.nd (by rfl) (by first | exact .inl rfl | exact .inr rfl) (by first | exact .inl rfl | exact .inr rfl))) (fun _ _ _ _ _ => tds_nil) (fun _ _ _ _ _ => (pd_add pd_int (pd_mul (pd_var (i := 5) (by rfl) (by first | exact .inl rfl | exact .inr (.inl rfl) | exact .inr (.inr rfl))) (pd_var (i := 1) (by rfl) (by first | exact .inl rfl | exact .inr (.inl rfl) | exact .inr (.inr rfl))))))))) sd_nil) sd_nil) (sd_cons (sd_set false (i := 3) sc_near.nd (by rfl) (by first | exact .inl rfl | exact .inr rfl) (pd_mod (pd_sub (pd_var (i := 2) (by rfl) (by first | exact .inl rfl | exact .inr (.inl rfl) | exact .inr (.inr rfl))) pd_int) (pd_var (i := 1) (by rfl) (by first | exact .inl rfl | exact .inr (.inl rfl) | exact .inr (.inr rfl)))) (by first | exact .inl rfl | exact .inr rfl)) (sd_cons (sd_set true (i := 4) sc_near.nd (by rfl) (by first | exact .inl rfl | exact .inr rfl) (pd_lstL (ld_cons (pd_if (td_tru (pd_var (i := 3) (by rfl) (by first | exact .inl rfl | exact .inr (.inl rfl) | exact .inr (.inr rfl)))) (pd_sub (pd_var (i := 2) (by rfl) (by first | exact .inl rfl | exact .inr (.inl rfl) | exact .inr (.inr rfl))) pd_int) pd_int) ld_nil)) (by first | exact .inl rfl | exact .inr rfl)) (sd_cons (sd_if (td_c (c_lt hr) (pd_add (pd_var (i := 3) (by rfl) (by first | exact .inl rfl | exact .inr (.inl rfl) | exact .inr (.inr rfl))) pd_int) (pd_var (i := 1) (by rfl) (by first | exact .inl rfl | exact .inr (.inl rfl) | exact .inr (.inr rfl)))) (sd_cons (sd_app (i := 4) (by rfl) (by first | exact .inl rfl | exact .inr (.inl rfl) | exact .inr (.inr rfl)) (pd_add (pd_var (i := 2) (by rfl) (by first | exact .inl rfl | exact .inr (.inl rfl) | exact .inr (.inr rfl))) pd_int)) sd_nil) sd_nil) (sd_cons (sd_retO (j := 4) (by rfl) (by first | exact .inl rfl | exact .inr (.inl rfl) | exact .inr (.inr rfl))) sd_nil)))))
/-! ### length_of -/
def g_length_of : DE → Option Out := (sSeq (sRet (e2 dFdiv (e2 dSub (e1 dLen (e2 dIx (eVar 0) (eC (.int 1)))) (eC (.int 1))) (e2 dIx (eVar 0) (eC (.int 0))))) sNil)
def F_length_of : List DV → Option DV := fnF 1 g_length_of
theorem sc_length_of : FnScope ["chart"] ["chart"] (defScope (top 13)) := ⟨by rfl, by rfl, by rfl, by decide +kernel, by rfl, by decide +kernel, by decide +kernel⟩
theorem ok_length_of (M : MF mg) (F : FunD K "length_of" "length_of" (defArgs (top 13)) (defBody (top 13)) (defScope (top 13)) [] [] (He.fAd K ("length_of", none)) fd) (hm : mg "length_of" = some (.ref (He.fAd K ("length_of", none)))) : C8.Cal P w K mg base 4 "length_of" (spD ⟨P, w, T⟩ 1 F_length_of) [] := by
  refine cal_fd (k := 3) (N := ["chart"]) (ps := ["chart"]) (g := g_length_of) F hm sc_length_of (fun _ _ _ _ _ _ us hl => match us, hl with | [_], _ => rfl) (fun A outer s H E hr => ?_)
  exact (sd_cons (sd_ret (pd_fdiv (pd_sub (pd_len M.len (pd_item (pd_var (i := 0) (by rfl) (by first | exact .inl rfl | exact .inr (.inl rfl) | exact .inr (.inr rfl))) pd_int)) pd_int) (pd_item (pd_var (i := 0) (by rfl) (by first | exact .inl rfl | exact .inr (.inl rfl) | exact .inr (.inr rfl))) pd_int))) sd_nil)
/-! ### hangs -/
def g_hangs : DE → Option Out := (sSeq (sIf (tNotF (eTru (eVar 2))) (sSeq (sRet (eC (.bool false))) sNil) sNil) (sSeq (sPar3 3 4 5 (aCons (e2 dFdiv (e2 dSub (e1 dLen (eVar 1)) (eC (.int 1))) (eVar 0)) (aCons (eLstL (lCons (e2 dIx (eVar 2) (eC (.int 0))) lNil)) (aCons (eLstL (lCons (e2 dIx (eVar 2) (eC (.int 0))) lNil)) aNil)))) (sSeq (sWhile (eTru (eVar 5)) (sClr [6, 7, 8] (sSeq (sSet true 6 (eLstL lNil)) (sSeq (sFor (iSeq (eVar 5)) (gtN 7) (sClr [7, 8] (sSeq (sFor (iSeq (eCall F_near (aCons (eVar 0) (aCons (eVar 3) (aCons (eVar 7) aNil))))) (gtN 8) (sClr [8] (sSeq (sIf (tAndF (eTru (e2 (dIn false) (eVar 8) (eVar 2))) (eTru (e2 (dIn true) (eVar 8) (eRd 4)))) (sSeq (sApp 4 (eVar 8)) (sSeq (sApp 6 (eVar 8)) sNil)) sNil) sNil))) sNil))) (sSeq (sFrz 5 6) sNil)))) 200) (sSeq (sRet (e2 dEq (e1 dLen (eRd 4)) (e1 dLen (eVar 2)))) sNil))))
def F_hangs : List DV → Option DV := fnF 9 g_hangs
theorem sc_hangs : FnScope ["arms", "cells", "some", "length", "found", "rows", "more", "cell", "other"] ["arms", "cells", "some"] (defScope (top 14)) := ⟨by rfl, by rfl, by rfl, by decide +kernel, by rfl, by decide +kernel, by decide +kernel⟩
theorem ok_hangs (M : MF mg) (F : FunD K "hangs" "hangs" (defArgs (top 14)) (defBody (top 14)) (defScope (top 14)) [] [] (He.fAd K ("hangs", none)) fd) (hm : mg "hangs" = some (.ref (He.fAd K ("hangs", none)))) (c_near : C8.Cal P w K mg base 4 "near" (spD ⟨P, w, T⟩ 3 F_near) []) : C8.Cal P w K mg base 8 "hangs" (spD ⟨P, w, T⟩ 3 F_hangs) [] := by
  refine cal_fd (k := 7) (N := ["arms", "cells", "some", "length", "found", "rows", "more", "cell", "other"]) (ps := ["arms", "cells", "some"]) (g := g_hangs) F hm sc_hangs (fun _ _ _ _ _ _ us hl => match us, hl with | [_, _, _], _ => rfl) (fun A outer s H E hr => ?_)
  exact (sd_cons (sd_if (td_not (td_tru (pd_var (i := 2) (by rfl) (by first | exact .inl rfl | exact .inr (.inl rfl) | exact .inr (.inr rfl))))) (sd_cons (sd_ret pd_bl) sd_nil) sd_nil) (sd_cons (sd_par3 (i := 3) (j := 4) (l := 5) (by rfl) sc_hangs.nd (by rfl) (by rfl) (by rfl) (by decide) (by decide) (by decide) (by rfl) (by rfl) (by rfl) (ad_cons (pd_fdiv (pd_sub (pd_len M.len (pd_var (i := 1) (by rfl) (by first | exact .inl rfl | exact .inr (.inl rfl) | exact .inr (.inr rfl)))) pd_int) (pd_var (i := 0) (by rfl) (by first | exact .inl rfl | exact .inr (.inl rfl) | exact .inr (.inr rfl)))) (ad_cons (pd_lstL (ld_cons (pd_item (pd_var (i := 2) (by rfl) (by first | exact .inl rfl | exact .inr (.inl rfl) | exact .inr (.inr rfl))) pd_int) ld_nil)) (ad_cons (pd_frz (pd_lstL (ld_cons (pd_item (pd_var (i := 2) (by rfl) (by first | exact .inl rfl | exact .inr (.inl rfl) | exact .inr (.inr rfl))) pd_int) ld_nil))) ad_nil))) (by rfl)) (sd_cons (sd_while 200 PassesOwn.never (td_tru (pd_var (i := 5) (by rfl) (by first | exact .inl rfl | exact .inr (.inl rfl) | exact .inr (.inr rfl)))) (sd_clr [6, 7, 8] (sd_cons (sd_set true (i := 6) sc_hangs.nd (by rfl) (by first | exact .inl rfl | exact .inr rfl) (pd_lstL ld_nil) (by first | exact .inl rfl | exact .inr rfl)) (sd_cons (sd_for PassesOwn.never (by rfl) (id_seq (pd_var (i := 5) (by rfl) (by first | exact .inl rfl | exact .inr (.inl rfl) | exact .inr (.inr rfl)))) (gd_name (i := 7) sc_hangs.nd (by rfl) (by first | exact .inl rfl | exact .inr rfl) (by first | exact .inl rfl | exact .inr rfl)) (sd_clr [7, 8] (sd_cons (sd_for PassesOwn.never (by rfl) (id_seq (pd_call c_near hr (by decide) (by rfl) (n := 3) (ad_cons (pd_var (i := 0) (by rfl) (by first | exact .inl rfl | exact .inr (.inl rfl) | exact .inr (.inr rfl))) (ad_cons (pd_var (i := 3) (by rfl) (by first | exact .inl rfl | exact .inr (.inl rfl) | exact .inr (.inr rfl))) (ad_cons (pd_var (i := 7) (by rfl) (by first | exact .inl rfl | exact .inr (.inl rfl) | exact .inr (.inr rfl))) ad_nil))))) (gd_name (i := 8) sc_hangs.nd (by rfl) (by first | exact .inl rfl | exact .inr rfl) (by first | exact .inl rfl | exact .inr rfl)) (sd_clr [8] (sd_cons (sd_if (PW.pt (wd_and (td_c (c_in hr) (pd_var (i := 8) (by rfl) (by first | exact .inl rfl | exact .inr (.inl rfl) | exact .inr (.inr rfl))) (pd_var (i := 2) (by rfl) (by first | exact .inl rfl | exact .inr (.inl rfl) | exact .inr (.inr rfl)))) (pw_and1 (td_c (c_nin hr) (pd_var (i := 8) (by rfl) (by first | exact .inl rfl | exact .inr (.inl rfl) | exact .inr (.inr rfl))) (pd_rdv (i := 4) (by rfl) (by first | exact .inl rfl | exact .inr (.inl rfl) | exact .inr (.inr rfl))))))) (sd_cons (sd_app (i := 4) (by rfl) (by first | exact .inl rfl | exact .inr (.inl rfl) | exact .inr (.inr rfl)) (pd_var (i := 8) (by rfl) (by first | exact .inl rfl | exact .inr (.inl rfl) | exact .inr (.inr rfl)))) (sd_cons (sd_app (i := 6) (by rfl) (by first | exact .inl rfl | exact .inr (.inl rfl) | exact .inr (.inr rfl)) (pd_var (i := 8) (by rfl) (by first | exact .inl rfl | exact .inr (.inl rfl) | exact .inr (.inr rfl)))) sd_nil)) sd_nil) sd_nil))) sd_nil))) (sd_cons (sd_frz (i := 5) (j := 6) sc_hangs.nd (by rfl) (by first | exact .inl rfl | exact .inr rfl) (by rfl) (by first | exact .inl rfl | exact .inr (.inl rfl) | exact .inr (.inr rfl)) (by first | exact .inl rfl | exact .inr rfl)) sd_nil))))) (sd_cons (sd_ret (pd_c (c_eq hr) (pd_len M.len (pd_rdv (i := 4) (by rfl) (by first | exact .inl rfl | exact .inr (.inl rfl) | exact .inr (.inr rfl)))) (pd_len M.len (pd_var (i := 2) (by rfl) (by first | exact .inl rfl | exact .inr (.inl rfl) | exact .inr (.inr rfl)))))) sd_nil))))
/-! ### held -/
def g_held : DE → Option Out := (sSeq (sRet (eLc [2, 3] (iEnum (eVar 0)) (gtT [2, 3]) (eTru (e2 dEq (eVar 3) (eVar 1))) (eVar 2))) sNil)
def F_held : List DV → Option DV := fnF 4 g_held
theorem sc_held : FnScope ["cells", "land", "cell", "one"] ["cells", "land"] (defScope (top 15)) := ⟨by rfl, by rfl, by rfl, by decide +kernel, by rfl, by decide +kernel, by decide +kernel⟩
theorem ok_held (M : MF mg) (F : FunD K "held" "held" (defArgs (top 15)) (defBody (top 15)) (defScope (top 15)) [] [] (He.fAd K ("held", none)) fd) (hm : mg "held" = some (.ref (He.fAd K ("held", none)))) : C8.Cal P w K mg base 4 "held" (spD ⟨P, w, T⟩ 2 F_held) [] := by
  refine cal_fd (k := 3) (N := ["cells", "land", "cell", "one"]) (ps := ["cells", "land"]) (g := g_held) F hm sc_held (fun _ _ _ _ _ _ us hl => match us, hl with | [_, _], _ => rfl) (fun A outer s H E hr => ?_)
  exact (sd_cons (sd_ret (pd_frz (pd_lc (by rfl) sc_held.nd (id_enum M.enumerate (pd_var (i := 0) (by rfl) (by first | exact .inl rfl | exact .inr (.inl rfl) | exact .inr (.inr rfl)))) (own := [(("cell" : PySem.Str), 2), (("one" : PySem.Str), 3)]) (blk_of (N := ["cells", "land", "cell", "one"]) (sc := defScope (top 15)) (by decide +kernel)) (by decide) (fun _ _ _ _ _ => (gd_tup (by rfl) (gds_cons (i := 2) sc_held.nd (by rfl) (by first | exact .inl rfl | exact .inr rfl) (by first | exact .inl rfl | exact .inr rfl) (gds_cons (i := 3) sc_held.nd (by rfl) (by first | exact .inl rfl | exact .inr rfl) (by first | exact .inl rfl | exact .inr rfl) gds_nil)))) (fun _ _ _ _ _ => tds_one (td_c (c_eq hr) (pd_var (i := 3) (by rfl) (by first | exact .inl rfl | exact .inr (.inl rfl) | exact .inr (.inr rfl))) (pd_var (i := 1) (by rfl) (by first | exact .inl rfl | exact .inr (.inl rfl) | exact .inr (.inr rfl))))) (fun _ _ _ _ _ => (pd_var (i := 2) (by rfl) (by first | exact .inl rfl | exact .inr (.inl rfl) | exact .inr (.inr rfl))))))) sd_nil)
end K08
end

section
set_option Elab.async false
set_option linter.all false
set_option maxRecDepth 100000
set_option maxHeartbeats 4000000
/-! the defs of the linked text as functions of data: printed by gen.py. -/
namespace K08
open PySem PySem.Spec PyProof.Rows L2 FD
variable {P : Program} {w : World} {K : PySem.W.Frag} {mg : Str → Option Value} {base : Heap} {fd : FuncData} {T : List Addr}
/-! ### need_island -/
def g_need_island : DE → Option Out := (sSeq (sIf (tNotF (eTru (eCall F_is_in (aCons (eVar 0) (aCons (eC (.int 3)) (aCons (eC (.int 4)) aNil)))))) sNever sNil) (sSeq (sIf (tNotF (eTru (eCall F_is_in (aCons (eVar 1) (aCons (eC (.int 1)) (aCons (eC (.int 4)) aNil)))))) sNever sNil) sNil))
def F_need_island : List DV → Option DV := fnF 2 g_need_island
theorem sc_need_island : FnScope ["arms", "length"] ["arms", "length"] (defScope (top 11)) := ⟨by rfl, by rfl, by rfl, by decide +kernel, by rfl, by decide +kernel, by decide +kernel⟩
theorem ok_need_island (M : MF mg) (F : FunD K "need_island" "need_island" (defArgs (top 11)) (defBody (top 11)) (defScope (top 11)) [] [] (He.fAd K ("need_island", none)) fd) (hm : mg "need_island" = some (.ref (He.fAd K ("need_island", none)))) (c_is_in : C8.Cal P w K mg base 4 "is_in" (spD ⟨P, w, T⟩ 3 F_is_in) []) : C8.Cal P w K mg base 8 "need_island" (spD ⟨P, w, T⟩ 2 F_need_island) [] := by
  obtain ⟨t_la, hla⟩ := M.la
  obtain ⟨t_ma, hma⟩ := M.ma
  obtain ⟨t_ml, hml⟩ := M.ml
  refine cal_fd (k := 7) (N := ["arms", "length"]) (ps := ["arms", "length"]) (g := g_need_island) F hm sc_need_island (fun _ _ _ _ _ _ us hl => match us, hl with | [_, _], _ => rfl) (fun A outer s H E hr => ?_)
  exact (sd_cons (sd_if (td_not (td_tru (pd_call c_is_in hr (by decide) (by rfl) (n := 3) (ad_cons (pd_var (i := 0) (by rfl) (by first | exact .inl rfl | exact .inr (.inl rfl) | exact .inr (.inr rfl))) (ad_cons (pd_globI (by rfl) hla) (ad_cons (pd_globI (by rfl) hma) ad_nil)))))) sd_never sd_nil) (sd_cons (sd_if (td_not (td_tru (pd_call c_is_in hr (by decide) (by rfl) (n := 3) (ad_cons (pd_var (i := 1) (by rfl) (by first | exact .inl rfl | exact .inr (.inl rfl) | exact .inr (.inr rfl))) (ad_cons pd_int (ad_cons (pd_globI (by rfl) hml) ad_nil)))))) sd_never sd_nil) sd_nil))
/-! ### are_cells -/
def g_are_cells : DE → Option Out := (sSeq (sIf (tOrF (eTru (e2 dLt (e1 dLen (eVar 1)) (e2 dAdd (eVar 0) (eC (.int 1))))) (tOrF (eTru (e2 dMod (e2 dSub (e1 dLen (eVar 1)) (eC (.int 1))) (eVar 0))) (eTru (e2 dGt (e2 dFdiv (e2 dSub (e1 dLen (eVar 1)) (eC (.int 1))) (eVar 0)) (eC (.int 4)))))) (sSeq (sRet (eC (.bool false))) sNil) sNil) (sSeq (sSet false 2 (e2 dFdiv (e2 dSub (e1 dLen (eVar 1)) (eC (.int 1))) (eVar 0))) (sSeq (sIf (tNotF (eTru (FDG.eAny false [4] (iSeq (eVar 1)) (gtN 4) (eCall F_is_in (aCons (eVar 4) (aCons (eC (.int 0)) (aCons (eVar 2) aNil))))))) (sSeq (sRet (eC (.bool false))) sNil) sNil) (sSeq (sSet false 3 (e2 dAdd (e1 dMax (eVar 1)) (eC (.int 1)))) (sSeq (sRet (eAnd (e2 dGt (eVar 3) (eC (.int 1))) (FDG.eAny false [5] (iRange (eVar 3)) (gtN 5) (eCall F_hangs (aCons (eVar 0) (aCons (eVar 1) (aCons (eCall F_held (aCons (eVar 1) (aCons (eVar 5) aNil))) aNil))))))) sNil)))))
def F_are_cells : List DV → Option DV := fnF 6 g_are_cells
theorem sc_are_cells : FnScope ["arms", "cells", "length", "lands", "one", "land"] ["arms", "cells"] (defScope (top 16)) := ⟨by rfl, by rfl, by rfl, by decide +kernel, by rfl, by decide +kernel, by decide +kernel⟩
theorem ok_are_cells (M : MF mg) (F : FunD K "are_cells" "are_cells" (defArgs (top 16)) (defBody (top 16)) (defScope (top 16)) [] [] (He.fAd K ("are_cells", none)) fd) (hm : mg "are_cells" = some (.ref (He.fAd K ("are_cells", none)))) (c_hangs : C8.Cal P w K mg base 8 "hangs" (spD ⟨P, w, T⟩ 3 F_hangs) []) (c_held : C8.Cal P w K mg base 4 "held" (spD ⟨P, w, T⟩ 2 F_held) []) (c_is_in : C8.Cal P w K mg base 4 "is_in" (spD ⟨P, w, T⟩ 3 F_is_in) []) (TL : TLn K base mg T "are_cells") : C8.Cal P w K mg base 12 "are_cells" (spD ⟨P, w, T⟩ 2 F_are_cells) [] := by
  obtain ⟨t_ml, hml⟩ := M.ml
  refine cal_fd (k := 11) (N := ["arms", "cells", "length", "lands", "one", "land"]) (ps := ["arms", "cells"]) (g := g_are_cells) F hm sc_are_cells (fun _ _ _ _ _ _ us hl => match us, hl with | [_, _], _ => rfl) (fun A outer s H E hr => ?_)
  exact (sd_cons (sd_if (PW.pt (wd_or (td_c (c_lt hr) (pd_len M.len (pd_var (i := 1) (by rfl) (by first | exact .inl rfl | exact .inr (.inl rfl) | exact .inr (.inr rfl)))) (pd_add (pd_var (i := 0) (by rfl) (by first | exact .inl rfl | exact .inr (.inl rfl) | exact .inr (.inr rfl))) pd_int)) (wd_or (td_tru (pd_mod (pd_sub (pd_len M.len (pd_var (i := 1) (by rfl) (by first | exact .inl rfl | exact .inr (.inl rfl) | exact .inr (.inr rfl)))) pd_int) (pd_var (i := 0) (by rfl) (by first | exact .inl rfl | exact .inr (.inl rfl) | exact .inr (.inr rfl))))) (pw_or1 (td_c (c_gt hr) (pd_fdiv (pd_sub (pd_len M.len (pd_var (i := 1) (by rfl) (by first | exact .inl rfl | exact .inr (.inl rfl) | exact .inr (.inr rfl)))) pd_int) (pd_var (i := 0) (by rfl) (by first | exact .inl rfl | exact .inr (.inl rfl) | exact .inr (.inr rfl)))) (pd_globI (by rfl) hml)))))) (sd_cons (sd_ret pd_bl) sd_nil) sd_nil) (sd_cons (sd_set false (i := 2) sc_are_cells.nd (by rfl) (by first | exact .inl rfl | exact .inr rfl) (pd_fdiv (pd_sub (pd_len M.len (pd_var (i := 1) (by rfl) (by first | exact .inl rfl | exact .inr (.inl rfl) | exact .inr (.inr rfl)))) pd_int) (pd_var (i := 0) (by rfl) (by first | exact .inl rfl | exact .inr (.inl rfl) | exact .inr (.inr rfl)))) (by first | exact .inl rfl | exact .inr rfl)) (sd_cons (sd_if (td_not (td_tru (FDG.pd_all hr (by rfl) TL.mem M.all (by rfl) TL.tb (by rfl) (own := [(("one" : PySem.Str), 4)]) ⟨(blk_of (N := ["arms", "cells", "length", "lands", "one", "land"]) (sc := defScope (top 16)) (by decide +kernel)), sc_are_cells.nd, by decide +kernel, by rfl, by rfl, (by intro _; rfl)⟩ (id_seq (pd_var (i := 1) (by rfl) (by first | exact .inl rfl | exact .inr (.inl rfl) | exact .inr (.inr rfl)))) (by decide) (fun _ _ _ _ => (gd_name (i := 4) sc_are_cells.nd (by rfl) (by first | exact .inl rfl | exact .inr rfl) (by first | exact .inl rfl | exact .inr rfl))) (fun _ _ _ _ => (pd_call c_is_in (FDG.room_gen hr) (by decide) (by rfl) (n := 3) (ad_cons (pd_var (i := 4) (by rfl) (by first | exact .inl rfl | exact .inr (.inl rfl) | exact .inr (.inr rfl))) (ad_cons pd_int (ad_cons (pd_var (i := 2) (by rfl) (by first | exact .inl rfl | exact .inr (.inl rfl) | exact .inr (.inr rfl))) ad_nil)))))))) (sd_cons (sd_ret pd_bl) sd_nil) sd_nil) (sd_cons (sd_set false (i := 3) sc_are_cells.nd (by rfl) (by first | exact .inl rfl | exact .inr rfl) (pd_add (pd_max hr M.max (pd_var (i := 1) (by rfl) (by first | exact .inl rfl | exact .inr (.inl rfl) | exact .inr (.inr rfl)))) pd_int) (by first | exact .inl rfl | exact .inr rfl)) (sd_cons (sd_ret (pd_and (pd_c (c_gt hr) (pd_var (i := 3) (by rfl) (by first | exact .inl rfl | exact .inr (.inl rfl) | exact .inr (.inr rfl))) pd_int) (pd_one (FDG.pd_all hr (by rfl) TL.mem M.all (by rfl) TL.tb (by rfl) (own := [(("land" : PySem.Str), 5)]) ⟨(blk_of (N := ["arms", "cells", "length", "lands", "one", "land"]) (sc := defScope (top 16)) (by decide +kernel)), sc_are_cells.nd, by decide +kernel, by rfl, by rfl, (by intro _; rfl)⟩ (id_range M.range (pd_var (i := 3) (by rfl) (by first | exact .inl rfl | exact .inr (.inl rfl) | exact .inr (.inr rfl)))) (by decide) (fun _ _ _ _ => (gd_name (i := 5) sc_are_cells.nd (by rfl) (by first | exact .inl rfl | exact .inr rfl) (by first | exact .inl rfl | exact .inr rfl))) (fun _ _ _ _ => (pd_call c_hangs (FDG.room_gen hr) (by decide) (by rfl) (n := 3) (ad_cons (pd_var (i := 0) (by rfl) (by first | exact .inl rfl | exact .inr (.inl rfl) | exact .inr (.inr rfl))) (ad_cons (pd_var (i := 1) (by rfl) (by first | exact .inl rfl | exact .inr (.inl rfl) | exact .inr (.inr rfl))) (ad_cons (pd_call c_held (FDG.room_gen hr) (by decide) (by rfl) (n := 2) (ad_cons (pd_var (i := 1) (by rfl) (by first | exact .inl rfl | exact .inr (.inl rfl) | exact .inr (.inr rfl))) (ad_cons (pd_var (i := 5) (by rfl) (by first | exact .inl rfl | exact .inr (.inl rfl) | exact .inr (.inr rfl))) ad_nil))) ad_nil))))))))) sd_nil)))))
/-! ### is_map -/
def g_is_map : DE → Option Out := (sSeq (sIf (tOrF (tNotF (eTru (e1 (dIsi "tuple") (eVar 0)))) (tOrF (eTru (e2 dNe (e1 dLen (eVar 0)) (eC (.int 2)))) (tNotF (eTru (eCall F_is_in (aCons (e2 dIx (eVar 0) (eC (.int 0))) (aCons (eC (.int 3)) (aCons (eC (.int 4)) aNil)))))))) (sSeq (sRet (eC (.bool false))) sNil) sNil) (sSeq (sRet (eAnd (e1 (dIsi "tuple") (e2 dIx (eVar 0) (eC (.int 1)))) (eCall F_are_cells (aCons (e2 dIx (eVar 0) (eC (.int 0))) (aCons (e2 dIx (eVar 0) (eC (.int 1))) aNil))))) sNil))
def F_is_map : List DV → Option DV := fnF 1 g_is_map
theorem sc_is_map : FnScope ["value"] ["value"] (defScope (top 17)) := ⟨by rfl, by rfl, by rfl, by decide +kernel, by rfl, by decide +kernel, by decide +kernel⟩
theorem ok_is_map (M : MF mg) (F : FunD K "is_map" "is_map" (defArgs (top 17)) (defBody (top 17)) (defScope (top 17)) [] [] (He.fAd K ("is_map", none)) fd) (hm : mg "is_map" = some (.ref (He.fAd K ("is_map", none)))) (c_are_cells : C8.Cal P w K mg base 12 "are_cells" (spD ⟨P, w, T⟩ 2 F_are_cells) []) (c_is_in : C8.Cal P w K mg base 4 "is_in" (spD ⟨P, w, T⟩ 3 F_is_in) []) : C8.Cal P w K mg base 16 "is_map" (spD ⟨P, w, T⟩ 1 F_is_map) [] := by
  obtain ⟨t_la, hla⟩ := M.la
  obtain ⟨t_ma, hma⟩ := M.ma
  refine cal_fd (k := 15) (N := ["value"]) (ps := ["value"]) (g := g_is_map) F hm sc_is_map (fun _ _ _ _ _ _ us hl => match us, hl with | [_], _ => rfl) (fun A outer s H E hr => ?_)
  exact (sd_cons (sd_if (PW.pt (wd_or (td_not (td_tru (pd_isi (.inr (.inr (.inl rfl))) M.isinstance M.tuple (by rfl) (pd_var (i := 0) (by rfl) (by first | exact .inl rfl | exact .inr (.inl rfl) | exact .inr (.inr rfl)))))) (wd_or (td_c (c_ne hr) (pd_len M.len (pd_var (i := 0) (by rfl) (by first | exact .inl rfl | exact .inr (.inl rfl) | exact .inr (.inr rfl)))) pd_int) (pw_or1 (td_not (td_tru (pd_call c_is_in hr (by decide) (by rfl) (n := 3) (ad_cons (pd_item (pd_var (i := 0) (by rfl) (by first | exact .inl rfl | exact .inr (.inl rfl) | exact .inr (.inr rfl))) pd_int) (ad_cons (pd_globI (by rfl) hla) (ad_cons (pd_globI (by rfl) hma) ad_nil)))))))))) (sd_cons (sd_ret pd_bl) sd_nil) sd_nil) (sd_cons (sd_ret (pd_and (pd_isi (.inr (.inr (.inl rfl))) M.isinstance M.tuple (by rfl) (pd_item (pd_var (i := 0) (by rfl) (by first | exact .inl rfl | exact .inr (.inl rfl) | exact .inr (.inr rfl))) pd_int)) (pd_one (pd_call c_are_cells hr (by decide) (by rfl) (n := 2) (ad_cons (pd_item (pd_var (i := 0) (by rfl) (by first | exact .inl rfl | exact .inr (.inl rfl) | exact .inr (.inr rfl))) pd_int) (ad_cons (pd_item (pd_var (i := 0) (by rfl) (by first | exact .inl rfl | exact .inr (.inl rfl) | exact .inr (.inr rfl))) pd_int) ad_nil)))))) sd_nil))
/-! ### need_map -/
def g_need_map : DE → Option Out := (sSeq (sIf (tNotF (eTru (eCall F_is_map (aCons (eVar 0) aNil)))) sNever sNil) sNil)
def F_need_map : List DV → Option DV := fnF 1 g_need_map
theorem sc_need_map : FnScope ["chart"] ["chart"] (defScope (top 18)) := ⟨by rfl, by rfl, by rfl, by decide +kernel, by rfl, by decide +kernel, by decide +kernel⟩
theorem ok_need_map (M : MF mg) (F : FunD K "need_map" "need_map" (defArgs (top 18)) (defBody (top 18)) (defScope (top 18)) [] [] (He.fAd K ("need_map", none)) fd) (hm : mg "need_map" = some (.ref (He.fAd K ("need_map", none)))) (c_is_map : C8.Cal P w K mg base 16 "is_map" (spD ⟨P, w, T⟩ 1 F_is_map) []) : C8.Cal P w K mg base 20 "need_map" (spD ⟨P, w, T⟩ 1 F_need_map) [] := by
  refine cal_fd (k := 19) (N := ["chart"]) (ps := ["chart"]) (g := g_need_map) F hm sc_need_map (fun _ _ _ _ _ _ us hl => match us, hl with | [_], _ => rfl) (fun A outer s H E hr => ?_)
  exact (sd_cons (sd_if (td_not (td_tru (pd_call c_is_map hr (by decide) (by rfl) (n := 1) (ad_cons (pd_var (i := 0) (by rfl) (by first | exact .inl rfl | exact .inr (.inl rfl) | exact .inr (.inr rfl))) ad_nil)))) sd_never sd_nil) sd_nil)
/-! ### lands_of -/
def g_lands_of : DE → Option Out := (sSeq (sRet (e2 dAdd (e1 dMax (e2 dIx (eVar 0) (eC (.int 1)))) (eC (.int 1)))) sNil)
def F_lands_of : List DV → Option DV := fnF 1 g_lands_of
theorem sc_lands_of : FnScope ["chart"] ["chart"] (defScope (top 19)) := ⟨by rfl, by rfl, by rfl, by decide +kernel, by rfl, by decide +kernel, by decide +kernel⟩
theorem ok_lands_of (M : MF mg) (F : FunD K "lands_of" "lands_of" (defArgs (top 19)) (defBody (top 19)) (defScope (top 19)) [] [] (He.fAd K ("lands_of", none)) fd) (hm : mg "lands_of" = some (.ref (He.fAd K ("lands_of", none)))) : C8.Cal P w K mg base 4 "lands_of" (spD ⟨P, w, T⟩ 1 F_lands_of) [] := by
  refine cal_fd (k := 3) (N := ["chart"]) (ps := ["chart"]) (g := g_lands_of) F hm sc_lands_of (fun _ _ _ _ _ _ us hl => match us, hl with | [_], _ => rfl) (fun A outer s H E hr => ?_)
  exact (sd_cons (sd_ret (pd_add (pd_max hr M.max (pd_item (pd_var (i := 0) (by rfl) (by first | exact .inl rfl | exact .inr (.inl rfl) | exact .inr (.inr rfl))) pd_int)) pd_int)) sd_nil)
/-! ### is_made -/
def g_is_made : DE → Option Out := (sSeq (sTup [3, 4] (eVar 1)) (sSeq (sSet false 2 (e2 dIx (e2 dIx (eVar 0) (eC (.int 1))) (eVar 4))) (sSeq (sIf (tOrF (eTru (e2 dEq (eVar 2) (eVar 3))) (tNotF (eTru (FDG.eAny true [5] (iSeq (eCall F_near (aCons (e2 dIx (eVar 0) (eC (.int 0))) (aCons (eCall F_length_of (aCons (eVar 0) aNil)) (aCons (eVar 4) aNil))))) (gtN 5) (e2 dEq (e2 dIx (e2 dIx (eVar 0) (eC (.int 1))) (eVar 5)) (eVar 3)))))) (sSeq (sRet (eC (.bool false))) sNil) sNil) (sSeq (sRet (eCall F_hangs (aCons (e2 dIx (eVar 0) (eC (.int 0))) (aCons (e2 dIx (eVar 0) (eC (.int 1))) (aCons (eLc [5] (iSeq (eCall F_held (aCons (e2 dIx (eVar 0) (eC (.int 1))) (aCons (eVar 2) aNil)))) (gtN 5) (eTru (e2 dNe (eVar 5) (eVar 4))) (eVar 5)) aNil))))) sNil))))
def F_is_made : List DV → Option DV := fnF 6 g_is_made
theorem sc_is_made : FnScope ["chart", "taking", "other", "land", "cell", "one"] ["chart", "taking"] (defScope (top 22)) := ⟨by rfl, by rfl, by rfl, by decide +kernel, by rfl, by decide +kernel, by decide +kernel⟩
theorem ok_is_made (M : MF mg) (F : FunD K "is_made" "is_made" (defArgs (top 22)) (defBody (top 22)) (defScope (top 22)) [] [] (He.fAd K ("is_made", none)) fd) (hm : mg "is_made" = some (.ref (He.fAd K ("is_made", none)))) (c_hangs : C8.Cal P w K mg base 8 "hangs" (spD ⟨P, w, T⟩ 3 F_hangs) []) (c_held : C8.Cal P w K mg base 4 "held" (spD ⟨P, w, T⟩ 2 F_held) []) (c_length_of : C8.Cal P w K mg base 4 "length_of" (spD ⟨P, w, T⟩ 1 F_length_of) []) (c_near : C8.Cal P w K mg base 4 "near" (spD ⟨P, w, T⟩ 3 F_near) []) (TL : TLn K base mg T "is_made") : C8.Cal P w K mg base 12 "is_made" (spD ⟨P, w, T⟩ 2 F_is_made) [] := by
  refine cal_fd (k := 11) (N := ["chart", "taking", "other", "land", "cell", "one"]) (ps := ["chart", "taking"]) (g := g_is_made) F hm sc_is_made (fun _ _ _ _ _ _ us hl => match us, hl with | [_, _], _ => rfl) (fun A outer s H E hr => ?_)
  exact (sd_cons (sd_tup (by rfl) (pd_var (i := 1) (by rfl) (by first | exact .inl rfl | exact .inr (.inl rfl) | exact .inr (.inr rfl))) (gds_cons (i := 3) sc_is_made.nd (by rfl) (by first | exact .inl rfl | exact .inr rfl) (by first | exact .inl rfl | exact .inr rfl) (gds_cons (i := 4) sc_is_made.nd (by rfl) (by first | exact .inl rfl | exact .inr rfl) (by first | exact .inl rfl | exact .inr rfl) gds_nil))) (sd_cons (sd_set false (i := 2) sc_is_made.nd (by rfl) (by first | exact .inl rfl | exact .inr rfl) (pd_item (pd_item (pd_var (i := 0) (by rfl) (by first | exact .inl rfl | exact .inr (.inl rfl) | exact .inr (.inr rfl))) pd_int) (pd_var (i := 4) (by rfl) (by first | exact .inl rfl | exact .inr (.inl rfl) | exact .inr (.inr rfl)))) (by first | exact .inl rfl | exact .inr rfl)) (sd_cons (sd_if (PW.pt (wd_or (td_c (c_eq hr) (pd_var (i := 2) (by rfl) (by first | exact .inl rfl | exact .inr (.inl rfl) | exact .inr (.inr rfl))) (pd_var (i := 3) (by rfl) (by first | exact .inl rfl | exact .inr (.inl rfl) | exact .inr (.inr rfl)))) (pw_or1 (td_not (td_tru (FDG.pd_any hr (by rfl) TL.mem M.any TL.tb (by rfl) (own := [(("one" : PySem.Str), 5)]) ⟨(blk_of (N := ["chart", "taking", "other", "land", "cell", "one"]) (sc := defScope (top 22)) (by decide +kernel)), sc_is_made.nd, by decide +kernel, by rfl, by rfl, (by intro _; rfl)⟩ (id_seq (pd_call c_near hr (by decide) (by rfl) (n := 3) (ad_cons (pd_item (pd_var (i := 0) (by rfl) (by first | exact .inl rfl | exact .inr (.inl rfl) | exact .inr (.inr rfl))) pd_int) (ad_cons (pd_call c_length_of hr (by decide) (by rfl) (n := 1) (ad_cons (pd_var (i := 0) (by rfl) (by first | exact .inl rfl | exact .inr (.inl rfl) | exact .inr (.inr rfl))) ad_nil)) (ad_cons (pd_var (i := 4) (by rfl) (by first | exact .inl rfl | exact .inr (.inl rfl) | exact .inr (.inr rfl))) ad_nil))))) (by decide) (fun _ _ _ _ => (gd_name (i := 5) sc_is_made.nd (by rfl) (by first | exact .inl rfl | exact .inr rfl) (by first | exact .inl rfl | exact .inr rfl))) (fun _ _ _ _ => (pd_c (c_eq (FDG.room_gen hr)) (pd_item (pd_item (pd_var (i := 0) (by rfl) (by first | exact .inl rfl | exact .inr (.inl rfl) | exact .inr (.inr rfl))) pd_int) (pd_var (i := 5) (by rfl) (by first | exact .inl rfl | exact .inr (.inl rfl) | exact .inr (.inr rfl)))) (pd_var (i := 3) (by rfl) (by first | exact .inl rfl | exact .inr (.inl rfl) | exact .inr (.inr rfl))))))))))) (sd_cons (sd_ret pd_bl) sd_nil) sd_nil) (sd_cons (sd_ret (pd_call c_hangs hr (by decide) (by rfl) (n := 3) (ad_cons (pd_item (pd_var (i := 0) (by rfl) (by first | exact .inl rfl | exact .inr (.inl rfl) | exact .inr (.inr rfl))) pd_int) (ad_cons (pd_item (pd_var (i := 0) (by rfl) (by first | exact .inl rfl | exact .inr (.inl rfl) | exact .inr (.inr rfl))) pd_int) (ad_cons (pd_frz (pd_lc (by rfl) sc_is_made.nd (id_seq (pd_call c_held hr (by decide) (by rfl) (n := 2) (ad_cons (pd_item (pd_var (i := 0) (by rfl) (by first | exact .inl rfl | exact .inr (.inl rfl) | exact .inr (.inr rfl))) pd_int) (ad_cons (pd_var (i := 2) (by rfl) (by first | exact .inl rfl | exact .inr (.inl rfl) | exact .inr (.inr rfl))) ad_nil)))) (own := [(("one" : PySem.Str), 5)]) (blk_of (N := ["chart", "taking", "other", "land", "cell", "one"]) (sc := defScope (top 22)) (by decide +kernel)) (by decide) (fun _ _ _ _ _ => (gd_name (i := 5) sc_is_made.nd (by rfl) (by first | exact .inl rfl | exact .inr rfl) (by first | exact .inl rfl | exact .inr rfl))) (fun _ _ _ _ _ => tds_one (td_c (c_ne hr) (pd_var (i := 5) (by rfl) (by first | exact .inl rfl | exact .inr (.inl rfl) | exact .inr (.inr rfl))) (pd_var (i := 4) (by rfl) (by first | exact .inl rfl | exact .inr (.inl rfl) | exact .inr (.inr rfl))))) (fun _ _ _ _ _ => (pd_var (i := 5) (by rfl) (by first | exact .inl rfl | exact .inr (.inl rfl) | exact .inr (.inr rfl)))))) ad_nil))))) sd_nil))))
/-! ### all_takings -/
def g_all_takings : DE → Option Out := (sSeq (sSet false 1 (eLstL lNil)) (sSeq (sFor (iRange (eCall F_lands_of (aCons (eVar 0) aNil))) (gtN 2) (sClr [2] (sSeq (sSet false 1 (e2 dAdd (eVar 1) (eLc [3] (iRange (e1 dLen (e2 dIx (eVar 0) (eC (.int 1))))) (gtN 3) (eTru (eCall F_is_made (aCons (eVar 0) (aCons (eTupL (lCons (eVar 2) (lCons (eVar 3) lNil))) aNil)))) (eTupL (lCons (eVar 2) (lCons (eVar 3) lNil)))))) sNil))) (sSeq (sRet (eVar 1)) sNil)))
def F_all_takings : List DV → Option DV := fnF 4 g_all_takings
theorem sc_all_takings : FnScope ["chart", "found", "land", "cell"] ["chart"] (defScope (top 23)) := ⟨by rfl, by rfl, by rfl, by decide +kernel, by rfl, by decide +kernel, by decide +kernel⟩
theorem ok_all_takings (M : MF mg) (F : FunD K "all_takings" "all_takings" (defArgs (top 23)) (defBody (top 23)) (defScope (top 23)) [] [] (He.fAd K ("all_takings", none)) fd) (hm : mg "all_takings" = some (.ref (He.fAd K ("all_takings", none)))) (c_is_made : C8.Cal P w K mg base 12 "is_made" (spD ⟨P, w, T⟩ 2 F_is_made) []) (c_lands_of : C8.Cal P w K mg base 4 "lands_of" (spD ⟨P, w, T⟩ 1 F_lands_of) []) : C8.Cal P w K mg base 16 "all_takings" (spD ⟨P, w, T⟩ 1 F_all_takings) [] := by
  refine cal_fd (k := 15) (N := ["chart", "found", "land", "cell"]) (ps := ["chart"]) (g := g_all_takings) F hm sc_all_takings (fun _ _ _ _ _ _ us hl => match us, hl with | [_], _ => rfl) (fun A outer s H E hr => ?_)
  exact (sd_cons (sd_set false (i := 1) sc_all_takings.nd (by rfl) (by first | exact .inl rfl | exact .inr rfl) (pd_frz (pd_lstL ld_nil)) (by first | exact .inl rfl | exact .inr rfl)) (sd_cons (sd_for PassesOwn.never (by rfl) (id_range M.range (pd_call c_lands_of hr (by decide) (by rfl) (n := 1) (ad_cons (pd_var (i := 0) (by rfl) (by first | exact .inl rfl | exact .inr (.inl rfl) | exact .inr (.inr rfl))) ad_nil))) (gd_name (i := 2) sc_all_takings.nd (by rfl) (by first | exact .inl rfl | exact .inr rfl) (by first | exact .inl rfl | exact .inr rfl)) (sd_clr [2] (sd_cons (sd_set false (i := 1) sc_all_takings.nd (by rfl) (by first | exact .inl rfl | exact .inr rfl) (pd_add (pd_var (i := 1) (by rfl) (by first | exact .inl rfl | exact .inr (.inl rfl) | exact .inr (.inr rfl))) (pd_frz (pd_lc (by rfl) sc_all_takings.nd (id_range M.range (pd_len M.len (pd_item (pd_var (i := 0) (by rfl) (by first | exact .inl rfl | exact .inr (.inl rfl) | exact .inr (.inr rfl))) pd_int))) (own := [(("cell" : PySem.Str), 3)]) (blk_of (N := ["chart", "found", "land", "cell"]) (sc := defScope (top 23)) (by decide +kernel)) (by decide) (fun _ _ _ _ _ => (gd_name (i := 3) sc_all_takings.nd (by rfl) (by first | exact .inl rfl | exact .inr rfl) (by first | exact .inl rfl | exact .inr rfl))) (fun _ _ _ _ _ => tds_one (td_tru (pd_call c_is_made hr (by decide) (by rfl) (n := 2) (ad_cons (pd_var (i := 0) (by rfl) (by first | exact .inl rfl | exact .inr (.inl rfl) | exact .inr (.inr rfl))) (ad_cons (pd_tupL (ld_cons (pd_var (i := 2) (by rfl) (by first | exact .inl rfl | exact .inr (.inl rfl) | exact .inr (.inr rfl))) (ld_cons (pd_var (i := 3) (by rfl) (by first | exact .inl rfl | exact .inr (.inl rfl) | exact .inr (.inr rfl))) ld_nil))) ad_nil))))) (fun _ _ _ _ _ => (pd_tupL (ld_cons (pd_var (i := 2) (by rfl) (by first | exact .inl rfl | exact .inr (.inl rfl) | exact .inr (.inr rfl))) (ld_cons (pd_var (i := 3) (by rfl) (by first | exact .inl rfl | exact .inr (.inl rfl) | exact .inr (.inr rfl))) ld_nil))))))) (by first | exact .inl rfl | exact .inr rfl)) sd_nil))) (sd_cons (sd_ret (pd_var (i := 1) (by rfl) (by first | exact .inl rfl | exact .inr (.inl rfl) | exact .inr (.inr rfl)))) sd_nil)))
/-! ### taken -/
def g_taken : DE → Option Out := (sSeq (sTup [2, 3] (eVar 1)) (sSeq (sRet (eTupL (lCons (e2 dIx (eVar 0) (eC (.int 0))) (lCons (eTupL (lStar (eSl (e2 dIx (eVar 0) (eC (.int 1))) pN (pS (eVar 3))) (lCons (eVar 2) (lStar (eSl (e2 dIx (eVar 0) (eC (.int 1))) (pS (e2 dAdd (eVar 3) (eC (.int 1)))) pN) lNil)))) lNil)))) sNil))
def F_taken : List DV → Option DV := fnF 4 g_taken
theorem sc_taken : FnScope ["chart", "taking", "land", "cell"] ["chart", "taking"] (defScope (top 24)) := ⟨by rfl, by rfl, by rfl, by decide +kernel, by rfl, by decide +kernel, by decide +kernel⟩
theorem ok_taken (M : MF mg) (F : FunD K "taken" "taken" (defArgs (top 24)) (defBody (top 24)) (defScope (top 24)) [] [] (He.fAd K ("taken", none)) fd) (hm : mg "taken" = some (.ref (He.fAd K ("taken", none)))) : C8.Cal P w K mg base 4 "taken" (spD ⟨P, w, T⟩ 2 F_taken) [] := by
  refine cal_fd (k := 3) (N := ["chart", "taking", "land", "cell"]) (ps := ["chart", "taking"]) (g := g_taken) F hm sc_taken (fun _ _ _ _ _ _ us hl => match us, hl with | [_, _], _ => rfl) (fun A outer s H E hr => ?_)
  exact (sd_cons (sd_tup (by rfl) (pd_var (i := 1) (by rfl) (by first | exact .inl rfl | exact .inr (.inl rfl) | exact .inr (.inr rfl))) (gds_cons (i := 2) sc_taken.nd (by rfl) (by first | exact .inl rfl | exact .inr rfl) (by first | exact .inl rfl | exact .inr rfl) (gds_cons (i := 3) sc_taken.nd (by rfl) (by first | exact .inl rfl | exact .inr rfl) (by first | exact .inl rfl | exact .inr rfl) gds_nil))) (sd_cons (sd_ret (pd_tupL (ld_cons (pd_item (pd_var (i := 0) (by rfl) (by first | exact .inl rfl | exact .inr (.inl rfl) | exact .inr (.inr rfl))) pd_int) (ld_cons (pd_tupL (ld_star (pd_slice (pd_item (pd_var (i := 0) (by rfl) (by first | exact .inl rfl | exact .inr (.inl rfl) | exact .inr (.inr rfl))) pd_int) od_none (od_some (pd_var (i := 3) (by rfl) (by first | exact .inl rfl | exact .inr (.inl rfl) | exact .inr (.inr rfl))))) (ld_cons (pd_var (i := 2) (by rfl) (by first | exact .inl rfl | exact .inr (.inl rfl) | exact .inr (.inr rfl))) (ld_star (pd_slice (pd_item (pd_var (i := 0) (by rfl) (by first | exact .inl rfl | exact .inr (.inl rfl) | exact .inr (.inr rfl))) pd_int) (od_some (pd_add (pd_var (i := 3) (by rfl) (by first | exact .inl rfl | exact .inr (.inl rfl) | exact .inr (.inr rfl))) pd_int)) od_none) ld_nil)))) ld_nil)))) sd_nil))
/-! ### all_of_class -/
def g_all_of_class : DE → Option Out := (sSeq (sPar true 1 false 2 (aCons (eDct1 (eVar 0) (eC (.bool true))) (aCons (eLstL (lCons (eVar 0) lNil)) aNil))) (sSeq (sWhile (eTru (eVar 2)) (sClr [3, 4, 5, 6] (sSeq (sSet true 3 (eLstL lNil)) (sSeq (sFor (iSeq (eVar 2)) (gtN 4) (sClr [4, 5, 6] (sSeq (sFor (iSeq (eCall F_all_takings (aCons (eVar 4) aNil))) (gtN 5) (sClr [5, 6] (sSeq (sSet false 6 (eCall F_taken (aCons (eVar 4) (aCons (eVar 5) aNil)))) (sSeq (sIf (eTru (e2 (dIn true) (eVar 6) (eRd 1))) (sSeq (sPut 1 (eC (.bool true)) (eVar 6)) (sSeq (sApp 3 (eVar 6)) sNil)) sNil) sNil)))) sNil))) (sSeq (sFrz 2 3) sNil)))) 2000) (sSeq (sRet (e1 dKeysL (eRd 1))) sNil)))
def F_all_of_class : List DV → Option DV := fnF 7 g_all_of_class
theorem sc_all_of_class : FnScope ["chart", "found", "rows", "more", "here", "taking", "there"] ["chart"] (defScope (top 26)) := ⟨by rfl, by rfl, by rfl, by decide +kernel, by rfl, by decide +kernel, by decide +kernel⟩
theorem ok_all_of_class (M : MF mg) (F : FunD K "all_of_class" "all_of_class" (defArgs (top 26)) (defBody (top 26)) (defScope (top 26)) [] [] (He.fAd K ("all_of_class", none)) fd) (hm : mg "all_of_class" = some (.ref (He.fAd K ("all_of_class", none)))) (c_all_takings : C8.Cal P w K mg base 16 "all_takings" (spD ⟨P, w, T⟩ 1 F_all_takings) []) (c_taken : C8.Cal P w K mg base 4 "taken" (spD ⟨P, w, T⟩ 2 F_taken) []) : C8.Cal P w K mg base 20 "all_of_class" (spD ⟨P, w, T⟩ 1 F_all_of_class) [] := by
  refine cal_fd (k := 19) (N := ["chart", "found", "rows", "more", "here", "taking", "there"]) (ps := ["chart"]) (g := g_all_of_class) F hm sc_all_of_class (fun _ _ _ _ _ _ us hl => match us, hl with | [_], _ => rfl) (fun A outer s H E hr => ?_)
  exact (sd_cons (sd_par true false (i := 1) (j := 2) (by rfl) (by rfl) sc_all_of_class.nd (by rfl) (by rfl) (by decide) (by rfl) (by rfl) (ad_cons (pd_dct1 hr (pd_var (i := 0) (by rfl) (by first | exact .inl rfl | exact .inr (.inl rfl) | exact .inr (.inr rfl))) pd_bl) (ad_cons (pd_frz (pd_lstL (ld_cons (pd_var (i := 0) (by rfl) (by first | exact .inl rfl | exact .inr (.inl rfl) | exact .inr (.inr rfl))) ld_nil))) ad_nil)) (by rfl)) (sd_cons (sd_while 2000 PassesOwn.never (td_tru (pd_var (i := 2) (by rfl) (by first | exact .inl rfl | exact .inr (.inl rfl) | exact .inr (.inr rfl)))) (sd_clr [3, 4, 5, 6] (sd_cons (sd_set true (i := 3) sc_all_of_class.nd (by rfl) (by first | exact .inl rfl | exact .inr rfl) (pd_lstL ld_nil) (by first | exact .inl rfl | exact .inr rfl)) (sd_cons (sd_for PassesOwn.never (by rfl) (id_seq (pd_var (i := 2) (by rfl) (by first | exact .inl rfl | exact .inr (.inl rfl) | exact .inr (.inr rfl)))) (gd_name (i := 4) sc_all_of_class.nd (by rfl) (by first | exact .inl rfl | exact .inr rfl) (by first | exact .inl rfl | exact .inr rfl)) (sd_clr [4, 5, 6] (sd_cons (sd_for PassesOwn.never (by rfl) (id_seq (pd_call c_all_takings hr (by decide) (by rfl) (n := 1) (ad_cons (pd_var (i := 4) (by rfl) (by first | exact .inl rfl | exact .inr (.inl rfl) | exact .inr (.inr rfl))) ad_nil))) (gd_name (i := 5) sc_all_of_class.nd (by rfl) (by first | exact .inl rfl | exact .inr rfl) (by first | exact .inl rfl | exact .inr rfl)) (sd_clr [5, 6] (sd_cons (sd_set false (i := 6) sc_all_of_class.nd (by rfl) (by first | exact .inl rfl | exact .inr rfl) (pd_call c_taken hr (by decide) (by rfl) (n := 2) (ad_cons (pd_var (i := 4) (by rfl) (by first | exact .inl rfl | exact .inr (.inl rfl) | exact .inr (.inr rfl))) (ad_cons (pd_var (i := 5) (by rfl) (by first | exact .inl rfl | exact .inr (.inl rfl) | exact .inr (.inr rfl))) ad_nil))) (by first | exact .inl rfl | exact .inr rfl)) (sd_cons (sd_if (td_c (c_nin hr) (pd_var (i := 6) (by rfl) (by first | exact .inl rfl | exact .inr (.inl rfl) | exact .inr (.inr rfl))) (pd_rdv (i := 1) (by rfl) (by first | exact .inl rfl | exact .inr (.inl rfl) | exact .inr (.inr rfl)))) (sd_cons (sd_put hr (i := 1) (by rfl) (by first | exact .inl rfl | exact .inr (.inl rfl) | exact .inr (.inr rfl)) pd_bl (pd_var (i := 6) (by rfl) (by first | exact .inl rfl | exact .inr (.inl rfl) | exact .inr (.inr rfl)))) (sd_cons (sd_app (i := 3) (by rfl) (by first | exact .inl rfl | exact .inr (.inl rfl) | exact .inr (.inr rfl)) (pd_var (i := 6) (by rfl) (by first | exact .inl rfl | exact .inr (.inl rfl) | exact .inr (.inr rfl)))) sd_nil)) sd_nil) sd_nil)))) sd_nil))) (sd_cons (sd_frz (i := 2) (j := 3) sc_all_of_class.nd (by rfl) (by first | exact .inl rfl | exact .inr rfl) (by rfl) (by first | exact .inl rfl | exact .inr (.inl rfl) | exact .inr (.inr rfl)) (by first | exact .inl rfl | exact .inr rfl)) sd_nil))))) (sd_cons (sd_ret (pd_frz (pd_listd (by rfl) M.list (pd_rdv (i := 1) (by rfl) (by first | exact .inl rfl | exact .inr (.inl rfl) | exact .inr (.inr rfl)))))) sd_nil)))
end K08
end

section
set_option Elab.async false
set_option linter.all false
set_option maxRecDepth 100000
set_option maxHeartbeats 4000000
/-! the defs of the linked text as functions of data: printed by gen.py. -/
namespace K08
open PySem PySem.Spec PyProof.Rows L2 FD
variable {P : Program} {w : World} {K : PySem.W.Frag} {mg : Str → Option Value} {base : Heap} {fd : FuncData} {T : List Addr}
/-! ### are_values -/
def g_are_values : DE → Option Out := (sSeq (sIf (tOrF (tNotF (eTru (e1 (dIsi "tuple") (eVar 2)))) (eTru (e2 dNe (e1 dLen (eVar 2)) (eVar 0)))) (sSeq (sRet (eC (.bool false))) sNil) sNil) (sSeq (sFor (iSeq (eVar 2)) (gtN 3) (sClr [3] (sSeq (sIf (tOrF (tNotF (eTru (e1 (dIsi "tuple") (eVar 3)))) (eTru (e2 dNe (e1 dLen (eVar 3)) (eVar 1)))) (sSeq (sRet (eC (.bool false))) sNil) sNil) (sSeq (sIf (tNotF (eTru (FDG.eAny false [4] (iSeq (eVar 3)) (gtN 4) (eCall F_is_in (aCons (eVar 4) (aCons (e2 dSub (eC (.int 0)) (eC (.int 100))) (aCons (eC (.int 100)) aNil))))))) (sSeq (sRet (eC (.bool false))) sNil) sNil) sNil)))) (sSeq (sRet (eC (.bool true))) sNil)))
def F_are_values : List DV → Option DV := fnF 5 g_are_values
theorem sc_are_values : FnScope ["lands", "cells", "value", "line", "one"] ["lands", "cells", "value"] (defScope (top 29)) := ⟨by rfl, by rfl, by rfl, by decide +kernel, by rfl, by decide +kernel, by decide +kernel⟩
theorem ok_are_values (M : MF mg) (F : FunD K "are_values" "are_values" (defArgs (top 29)) (defBody (top 29)) (defScope (top 29)) [] [] (He.fAd K ("are_values", none)) fd) (hm : mg "are_values" = some (.ref (He.fAd K ("are_values", none)))) (c_is_in : C8.Cal P w K mg base 4 "is_in" (spD ⟨P, w, T⟩ 3 F_is_in) []) (TL : TLn K base mg T "are_values") : C8.Cal P w K mg base 8 "are_values" (spD ⟨P, w, T⟩ 3 F_are_values) [] := by
  obtain ⟨t_mv, hmv⟩ := M.mv
  refine cal_fd (k := 7) (N := ["lands", "cells", "value", "line", "one"]) (ps := ["lands", "cells", "value"]) (g := g_are_values) F hm sc_are_values (fun _ _ _ _ _ _ us hl => match us, hl with | [_, _, _], _ => rfl) (fun A outer s H E hr => ?_)
  exact (sd_cons (sd_if (PW.pt (wd_or (td_not (td_tru (pd_isi (.inr (.inr (.inl rfl))) M.isinstance M.tuple (by rfl) (pd_var (i := 2) (by rfl) (by first | exact .inl rfl | exact .inr (.inl rfl) | exact .inr (.inr rfl)))))) (pw_or1 (td_c (c_ne hr) (pd_len M.len (pd_var (i := 2) (by rfl) (by first | exact .inl rfl | exact .inr (.inl rfl) | exact .inr (.inr rfl)))) (pd_var (i := 0) (by rfl) (by first | exact .inl rfl | exact .inr (.inl rfl) | exact .inr (.inr rfl))))))) (sd_cons (sd_ret pd_bl) sd_nil) sd_nil) (sd_cons (sd_for PassesOwn.never (by rfl) (id_seq (pd_var (i := 2) (by rfl) (by first | exact .inl rfl | exact .inr (.inl rfl) | exact .inr (.inr rfl)))) (gd_name (i := 3) sc_are_values.nd (by rfl) (by first | exact .inl rfl | exact .inr rfl) (by first | exact .inl rfl | exact .inr rfl)) (sd_clr [3] (sd_cons (sd_if (PW.pt (wd_or (td_not (td_tru (pd_isi (.inr (.inr (.inl rfl))) M.isinstance M.tuple (by rfl) (pd_var (i := 3) (by rfl) (by first | exact .inl rfl | exact .inr (.inl rfl) | exact .inr (.inr rfl)))))) (pw_or1 (td_c (c_ne hr) (pd_len M.len (pd_var (i := 3) (by rfl) (by first | exact .inl rfl | exact .inr (.inl rfl) | exact .inr (.inr rfl)))) (pd_var (i := 1) (by rfl) (by first | exact .inl rfl | exact .inr (.inl rfl) | exact .inr (.inr rfl))))))) (sd_cons (sd_ret pd_bl) sd_nil) sd_nil) (sd_cons (sd_if (td_not (td_tru (FDG.pd_all hr (by rfl) TL.mem M.all (by rfl) TL.tb (by rfl) (own := [(("one" : PySem.Str), 4)]) ⟨(blk_of (N := ["lands", "cells", "value", "line", "one"]) (sc := defScope (top 29)) (by decide +kernel)), sc_are_values.nd, by decide +kernel, by rfl, by rfl, (by intro _; rfl)⟩ (id_seq (pd_var (i := 3) (by rfl) (by first | exact .inl rfl | exact .inr (.inl rfl) | exact .inr (.inr rfl)))) (by decide) (fun _ _ _ _ => (gd_name (i := 4) sc_are_values.nd (by rfl) (by first | exact .inl rfl | exact .inr rfl) (by first | exact .inl rfl | exact .inr rfl))) (fun _ _ _ _ => (pd_call c_is_in (FDG.room_gen hr) (by decide) (by rfl) (n := 3) (ad_cons (pd_var (i := 4) (by rfl) (by first | exact .inl rfl | exact .inr (.inl rfl) | exact .inr (.inr rfl))) (ad_cons (pd_sub pd_int (pd_globI (by rfl) hmv)) (ad_cons (pd_globI (by rfl) hmv) ad_nil)))))))) (sd_cons (sd_ret pd_bl) sd_nil) sd_nil) sd_nil)))) (sd_cons (sd_ret pd_bl) sd_nil)))
/-! ### need_valued -/
def g_need_valued : DE → Option Out := (sSeq (sExpr (eCall F_need_map (aCons (eVar 0) aNil))) (sSeq (sIf (tNotF (eTru (eCall F_are_values (aCons (eCall F_lands_of (aCons (eVar 0) aNil)) (aCons (e1 dLen (e2 dIx (eVar 0) (eC (.int 1)))) (aCons (eVar 1) aNil)))))) sNever sNil) sNil))
def F_need_valued : List DV → Option DV := fnF 2 g_need_valued
theorem sc_need_valued : FnScope ["chart", "values"] ["chart", "values"] (defScope (top 30)) := ⟨by rfl, by rfl, by rfl, by decide +kernel, by rfl, by decide +kernel, by decide +kernel⟩
theorem ok_need_valued (M : MF mg) (F : FunD K "need_valued" "need_valued" (defArgs (top 30)) (defBody (top 30)) (defScope (top 30)) [] [] (He.fAd K ("need_valued", none)) fd) (hm : mg "need_valued" = some (.ref (He.fAd K ("need_valued", none)))) (c_are_values : C8.Cal P w K mg base 8 "are_values" (spD ⟨P, w, T⟩ 3 F_are_values) []) (c_lands_of : C8.Cal P w K mg base 4 "lands_of" (spD ⟨P, w, T⟩ 1 F_lands_of) []) (c_need_map : C8.Cal P w K mg base 20 "need_map" (spD ⟨P, w, T⟩ 1 F_need_map) []) : C8.Cal P w K mg base 24 "need_valued" (spD ⟨P, w, T⟩ 2 F_need_valued) [] := by
  refine cal_fd (k := 23) (N := ["chart", "values"]) (ps := ["chart", "values"]) (g := g_need_valued) F hm sc_need_valued (fun _ _ _ _ _ _ us hl => match us, hl with | [_, _], _ => rfl) (fun A outer s H E hr => ?_)
  exact (sd_cons (sd_expr (pd_call c_need_map hr (by decide) (by rfl) (n := 1) (ad_cons (pd_var (i := 0) (by rfl) (by first | exact .inl rfl | exact .inr (.inl rfl) | exact .inr (.inr rfl))) ad_nil))) (sd_cons (sd_if (td_not (td_tru (pd_call c_are_values hr (by decide) (by rfl) (n := 3) (ad_cons (pd_call c_lands_of hr (by decide) (by rfl) (n := 1) (ad_cons (pd_var (i := 0) (by rfl) (by first | exact .inl rfl | exact .inr (.inl rfl) | exact .inr (.inr rfl))) ad_nil)) (ad_cons (pd_len M.len (pd_item (pd_var (i := 0) (by rfl) (by first | exact .inl rfl | exact .inr (.inl rfl) | exact .inr (.inr rfl))) pd_int)) (ad_cons (pd_var (i := 1) (by rfl) (by first | exact .inl rfl | exact .inr (.inl rfl) | exact .inr (.inr rfl))) ad_nil)))))) sd_never sd_nil) sd_nil))
/-! ### worth_of -/
def g_worth_of : DE → Option Out := (sSeq (sRet (FDG.eSumG [2, 3] (iEnum (e2 dIx (eVar 0) (eC (.int 1)))) (gtT [2, 3]) (e2 dIx (e2 dIx (eVar 1) (eVar 3)) (eVar 2)))) sNil)
def F_worth_of : List DV → Option DV := fnF 4 g_worth_of
theorem sc_worth_of : FnScope ["chart", "values", "cell", "land"] ["chart", "values"] (defScope (top 31)) := ⟨by rfl, by rfl, by rfl, by decide +kernel, by rfl, by decide +kernel, by decide +kernel⟩
theorem ok_worth_of (M : MF mg) (F : FunD K "worth_of" "worth_of" (defArgs (top 31)) (defBody (top 31)) (defScope (top 31)) [] [] (He.fAd K ("worth_of", none)) fd) (hm : mg "worth_of" = some (.ref (He.fAd K ("worth_of", none)))) (TL : TLn K base mg T "worth_of") : C8.Cal P w K mg base 4 "worth_of" (spD ⟨P, w, T⟩ 2 F_worth_of) [] := by
  refine cal_fd (k := 3) (N := ["chart", "values", "cell", "land"]) (ps := ["chart", "values"]) (g := g_worth_of) F hm sc_worth_of (fun _ _ _ _ _ _ us hl => match us, hl with | [_, _], _ => rfl) (fun A outer s H E hr => ?_)
  exact (sd_cons (sd_ret (FDG.pd_sumG hr (by rfl) TL.mem M.sum (by rfl) TL.tb (by rfl) (own := [(("cell" : PySem.Str), 2), (("land" : PySem.Str), 3)]) ⟨(blk_of (N := ["chart", "values", "cell", "land"]) (sc := defScope (top 31)) (by decide +kernel)), sc_worth_of.nd, by decide +kernel, by rfl, by rfl, (by intro _; rfl)⟩ (id_enum M.enumerate (pd_item (pd_var (i := 0) (by rfl) (by first | exact .inl rfl | exact .inr (.inl rfl) | exact .inr (.inr rfl))) pd_int)) (by decide) (fun _ _ _ _ => (gd_tup (by rfl) (gds_cons (i := 2) sc_worth_of.nd (by rfl) (by first | exact .inl rfl | exact .inr rfl) (by first | exact .inl rfl | exact .inr rfl) (gds_cons (i := 3) sc_worth_of.nd (by rfl) (by first | exact .inl rfl | exact .inr rfl) (by first | exact .inl rfl | exact .inr rfl) gds_nil)))) (fun _ _ _ _ => (pd_item (pd_item (pd_var (i := 1) (by rfl) (by first | exact .inl rfl | exact .inr (.inl rfl) | exact .inr (.inr rfl))) (pd_var (i := 3) (by rfl) (by first | exact .inl rfl | exact .inr (.inl rfl) | exact .inr (.inr rfl)))) (pd_var (i := 2) (by rfl) (by first | exact .inl rfl | exact .inr (.inl rfl) | exact .inr (.inr rfl))))))) sd_nil)
/-! ### worth -/
def g_worth : DE → Option Out := (sSeq (sExpr (eCall F_need_valued (aCons (eVar 0) (aCons (eVar 1) aNil)))) (sSeq (sRet (eCall F_worth_of (aCons (eVar 0) (aCons (eVar 1) aNil)))) sNil))
def F_worth : List DV → Option DV := fnF 2 g_worth
theorem sc_worth : FnScope ["chart", "values"] ["chart", "values"] (defScope (top 32)) := ⟨by rfl, by rfl, by rfl, by decide +kernel, by rfl, by decide +kernel, by decide +kernel⟩
theorem ok_worth (M : MF mg) (F : FunD K "worth" "worth" (defArgs (top 32)) (defBody (top 32)) (defScope (top 32)) [] [] (He.fAd K ("worth", none)) fd) (hm : mg "worth" = some (.ref (He.fAd K ("worth", none)))) (c_need_valued : C8.Cal P w K mg base 24 "need_valued" (spD ⟨P, w, T⟩ 2 F_need_valued) []) (c_worth_of : C8.Cal P w K mg base 4 "worth_of" (spD ⟨P, w, T⟩ 2 F_worth_of) []) : C8.Cal P w K mg base 28 "worth" (spD ⟨P, w, T⟩ 2 F_worth) [] := by
  refine cal_fd (k := 27) (N := ["chart", "values"]) (ps := ["chart", "values"]) (g := g_worth) F hm sc_worth (fun _ _ _ _ _ _ us hl => match us, hl with | [_, _], _ => rfl) (fun A outer s H E hr => ?_)
  exact (sd_cons (sd_expr (pd_call c_need_valued hr (by decide) (by rfl) (n := 2) (ad_cons (pd_var (i := 0) (by rfl) (by first | exact .inl rfl | exact .inr (.inl rfl) | exact .inr (.inr rfl))) (ad_cons (pd_var (i := 1) (by rfl) (by first | exact .inl rfl | exact .inr (.inl rfl) | exact .inr (.inr rfl))) ad_nil)))) (sd_cons (sd_ret (pd_call c_worth_of hr (by decide) (by rfl) (n := 2) (ad_cons (pd_var (i := 0) (by rfl) (by first | exact .inl rfl | exact .inr (.inl rfl) | exact .inr (.inr rfl))) (ad_cons (pd_var (i := 1) (by rfl) (by first | exact .inl rfl | exact .inr (.inl rfl) | exact .inr (.inr rfl))) ad_nil)))) sd_nil))
/-! ### best_of_class -/
def g_best_of_class : DE → Option Out := (sSeq (sRet (e1 dMax (eLc [2] (iSeq (eCall F_all_of_class (aCons (eVar 0) aNil))) (gtN 2) tYesF (eTupL (lCons (eCall F_worth_of (aCons (eVar 2) (aCons (eVar 1) aNil))) (lCons (eVar 2) lNil)))))) sNil)
def F_best_of_class : List DV → Option DV := fnF 3 g_best_of_class
theorem sc_best_of_class : FnScope ["chart", "values", "one"] ["chart", "values"] (defScope (top 33)) := ⟨by rfl, by rfl, by rfl, by decide +kernel, by rfl, by decide +kernel, by decide +kernel⟩
theorem ok_best_of_class (M : MF mg) (F : FunD K "best_of_class" "best_of_class" (defArgs (top 33)) (defBody (top 33)) (defScope (top 33)) [] [] (He.fAd K ("best_of_class", none)) fd) (hm : mg "best_of_class" = some (.ref (He.fAd K ("best_of_class", none)))) (c_all_of_class : C8.Cal P w K mg base 20 "all_of_class" (spD ⟨P, w, T⟩ 1 F_all_of_class) []) (c_worth_of : C8.Cal P w K mg base 4 "worth_of" (spD ⟨P, w, T⟩ 2 F_worth_of) []) : C8.Cal P w K mg base 24 "best_of_class" (spD ⟨P, w, T⟩ 2 F_best_of_class) [] := by
  refine cal_fd (k := 23) (N := ["chart", "values", "one"]) (ps := ["chart", "values"]) (g := g_best_of_class) F hm sc_best_of_class (fun _ _ _ _ _ _ us hl => match us, hl with | [_, _], _ => rfl) (fun A outer s H E hr => ?_)
  exact (sd_cons (sd_ret (pd_max hr M.max (pd_frz (pd_lc (by rfl) sc_best_of_class.nd (id_seq (pd_call c_all_of_class hr (by decide) (by rfl) (n := 1) (ad_cons (pd_var (i := 0) (by rfl) (by first | exact .inl rfl | exact .inr (.inl rfl) | exact .inr (.inr rfl))) ad_nil))) (own := [(("one" : PySem.Str), 2)]) (blk_of (N := ["chart", "values", "one"]) (sc := defScope (top 33)) (by decide +kernel)) (by decide) (fun _ _ _ _ _ => (gd_name (i := 2) sc_best_of_class.nd (by rfl) (by first | exact .inl rfl | exact .inr rfl) (by first | exact .inl rfl | exact .inr rfl))) (fun _ _ _ _ _ => tds_nil) (fun _ _ _ _ _ => (pd_tupL (ld_cons (pd_call c_worth_of hr (by decide) (by rfl) (n := 2) (ad_cons (pd_var (i := 2) (by rfl) (by first | exact .inl rfl | exact .inr (.inl rfl) | exact .inr (.inr rfl))) (ad_cons (pd_var (i := 1) (by rfl) (by first | exact .inl rfl | exact .inr (.inl rfl) | exact .inr (.inr rfl))) ad_nil))) (ld_cons (pd_var (i := 2) (by rfl) (by first | exact .inl rfl | exact .inr (.inl rfl) | exact .inr (.inr rfl))) ld_nil)))))))) sd_nil)
/-! ### best_in_class -/
def g_best_in_class : DE → Option Out := (sSeq (sExpr (eCall F_need_valued (aCons (eVar 0) (aCons (eVar 1) aNil)))) (sSeq (sRet (eCall F_best_of_class (aCons (eVar 0) (aCons (eVar 1) aNil)))) sNil))
def F_best_in_class : List DV → Option DV := fnF 2 g_best_in_class
theorem sc_best_in_class : FnScope ["chart", "values"] ["chart", "values"] (defScope (top 34)) := ⟨by rfl, by rfl, by rfl, by decide +kernel, by rfl, by decide +kernel, by decide +kernel⟩
theorem ok_best_in_class (M : MF mg) (F : FunD K "best_in_class" "best_in_class" (defArgs (top 34)) (defBody (top 34)) (defScope (top 34)) [] [] (He.fAd K ("best_in_class", none)) fd) (hm : mg "best_in_class" = some (.ref (He.fAd K ("best_in_class", none)))) (c_best_of_class : C8.Cal P w K mg base 24 "best_of_class" (spD ⟨P, w, T⟩ 2 F_best_of_class) []) (c_need_valued : C8.Cal P w K mg base 24 "need_valued" (spD ⟨P, w, T⟩ 2 F_need_valued) []) : C8.Cal P w K mg base 28 "best_in_class" (spD ⟨P, w, T⟩ 2 F_best_in_class) [] := by
  refine cal_fd (k := 27) (N := ["chart", "values"]) (ps := ["chart", "values"]) (g := g_best_in_class) F hm sc_best_in_class (fun _ _ _ _ _ _ us hl => match us, hl with | [_, _], _ => rfl) (fun A outer s H E hr => ?_)
  exact (sd_cons (sd_expr (pd_call c_need_valued hr (by decide) (by rfl) (n := 2) (ad_cons (pd_var (i := 0) (by rfl) (by first | exact .inl rfl | exact .inr (.inl rfl) | exact .inr (.inr rfl))) (ad_cons (pd_var (i := 1) (by rfl) (by first | exact .inl rfl | exact .inr (.inl rfl) | exact .inr (.inr rfl))) ad_nil)))) (sd_cons (sd_ret (pd_call c_best_of_class hr (by decide) (by rfl) (n := 2) (ad_cons (pd_var (i := 0) (by rfl) (by first | exact .inl rfl | exact .inr (.inl rfl) | exact .inr (.inr rfl))) (ad_cons (pd_var (i := 1) (by rfl) (by first | exact .inl rfl | exact .inr (.inl rfl) | exact .inr (.inr rfl))) ad_nil)))) sd_nil))
/-! ### shows_best_in_class -/
def g_shows_best_in_class : DE → Option Out := (sSeq (sExpr (eCall F_need_valued (aCons (eVar 0) (aCons (eVar 1) aNil)))) (sSeq (sSet false 3 (e2 dIx (eCall F_best_of_class (aCons (eVar 0) (aCons (eVar 1) aNil))) (eC (.int 0)))) (sSeq (sIf (tOrF (tNotF (eTru (e1 (dIsi "tuple") (eVar 2)))) (tOrF (eTru (e2 dNe (e1 dLen (eVar 2)) (eC (.int 2)))) (tNotF (eTru (eCall F_is_in (aCons (e2 dIx (eVar 2) (eC (.int 0))) (aCons (eVar 3) (aCons (eVar 3) aNil)))))))) (sSeq (sRet (eC (.bool false))) sNil) sNil) (sSeq (sRet (eAnd (eCall F_is_map (aCons (e2 dIx (eVar 2) (eC (.int 1))) aNil)) (eAnd (e2 (dIn false) (e2 dIx (eVar 2) (eC (.int 1))) (eCall F_all_of_class (aCons (eVar 0) aNil))) (e2 dEq (eCall F_worth_of (aCons (e2 dIx (eVar 2) (eC (.int 1))) (aCons (eVar 1) aNil))) (eVar 3))))) sNil))))
def F_shows_best_in_class : List DV → Option DV := fnF 4 g_shows_best_in_class
theorem sc_shows_best_in_class : FnScope ["chart", "values", "value", "best"] ["chart", "values", "value"] (defScope (top 35)) := ⟨by rfl, by rfl, by rfl, by decide +kernel, by rfl, by decide +kernel, by decide +kernel⟩
theorem ok_shows_best_in_class (M : MF mg) (F : FunD K "shows_best_in_class" "shows_best_in_class" (defArgs (top 35)) (defBody (top 35)) (defScope (top 35)) [] [] (He.fAd K ("shows_best_in_class", none)) fd) (hm : mg "shows_best_in_class" = some (.ref (He.fAd K ("shows_best_in_class", none)))) (c_all_of_class : C8.Cal P w K mg base 20 "all_of_class" (spD ⟨P, w, T⟩ 1 F_all_of_class) []) (c_best_of_class : C8.Cal P w K mg base 24 "best_of_class" (spD ⟨P, w, T⟩ 2 F_best_of_class) []) (c_is_in : C8.Cal P w K mg base 4 "is_in" (spD ⟨P, w, T⟩ 3 F_is_in) []) (c_is_map : C8.Cal P w K mg base 16 "is_map" (spD ⟨P, w, T⟩ 1 F_is_map) []) (c_need_valued : C8.Cal P w K mg base 24 "need_valued" (spD ⟨P, w, T⟩ 2 F_need_valued) []) (c_worth_of : C8.Cal P w K mg base 4 "worth_of" (spD ⟨P, w, T⟩ 2 F_worth_of) []) : C8.Cal P w K mg base 28 "shows_best_in_class" (spD ⟨P, w, T⟩ 3 F_shows_best_in_class) [] := by
  refine cal_fd (k := 27) (N := ["chart", "values", "value", "best"]) (ps := ["chart", "values", "value"]) (g := g_shows_best_in_class) F hm sc_shows_best_in_class (fun _ _ _ _ _ _ us hl => match us, hl with | [_, _, _], _ => rfl) (fun A outer s H E hr => ?_)
  exact (sd_cons (sd_expr (pd_call c_need_valued hr (by decide) (by rfl) (n := 2) (ad_cons (pd_var (i := 0) (by rfl) (by first | exact .inl rfl | exact .inr (.inl rfl) | exact .inr (.inr rfl))) (ad_cons (pd_var (i := 1) (by rfl) (by first | exact .inl rfl | exact .inr (.inl rfl) | exact .inr (.inr rfl))) ad_nil)))) (sd_cons (sd_set false (i := 3) sc_shows_best_in_class.nd (by rfl) (by first | exact .inl rfl | exact .inr rfl) (pd_item (pd_call c_best_of_class hr (by decide) (by rfl) (n := 2) (ad_cons (pd_var (i := 0) (by rfl) (by first | exact .inl rfl | exact .inr (.inl rfl) | exact .inr (.inr rfl))) (ad_cons (pd_var (i := 1) (by rfl) (by first | exact .inl rfl | exact .inr (.inl rfl) | exact .inr (.inr rfl))) ad_nil))) pd_int) (by first | exact .inl rfl | exact .inr rfl)) (sd_cons (sd_if (PW.pt (wd_or (td_not (td_tru (pd_isi (.inr (.inr (.inl rfl))) M.isinstance M.tuple (by rfl) (pd_var (i := 2) (by rfl) (by first | exact .inl rfl | exact .inr (.inl rfl) | exact .inr (.inr rfl)))))) (wd_or (td_c (c_ne hr) (pd_len M.len (pd_var (i := 2) (by rfl) (by first | exact .inl rfl | exact .inr (.inl rfl) | exact .inr (.inr rfl)))) pd_int) (pw_or1 (td_not (td_tru (pd_call c_is_in hr (by decide) (by rfl) (n := 3) (ad_cons (pd_item (pd_var (i := 2) (by rfl) (by first | exact .inl rfl | exact .inr (.inl rfl) | exact .inr (.inr rfl))) pd_int) (ad_cons (pd_var (i := 3) (by rfl) (by first | exact .inl rfl | exact .inr (.inl rfl) | exact .inr (.inr rfl))) (ad_cons (pd_var (i := 3) (by rfl) (by first | exact .inl rfl | exact .inr (.inl rfl) | exact .inr (.inr rfl))) ad_nil)))))))))) (sd_cons (sd_ret pd_bl) sd_nil) sd_nil) (sd_cons (sd_ret (pd_and (pd_call c_is_map hr (by decide) (by rfl) (n := 1) (ad_cons (pd_item (pd_var (i := 2) (by rfl) (by first | exact .inl rfl | exact .inr (.inl rfl) | exact .inr (.inr rfl))) pd_int) ad_nil)) (pd_and (pd_c (c_in hr) (pd_item (pd_var (i := 2) (by rfl) (by first | exact .inl rfl | exact .inr (.inl rfl) | exact .inr (.inr rfl))) pd_int) (pd_call c_all_of_class hr (by decide) (by rfl) (n := 1) (ad_cons (pd_var (i := 0) (by rfl) (by first | exact .inl rfl | exact .inr (.inl rfl) | exact .inr (.inr rfl))) ad_nil))) (pd_one (pd_c (c_eq hr) (pd_call c_worth_of hr (by decide) (by rfl) (n := 2) (ad_cons (pd_item (pd_var (i := 2) (by rfl) (by first | exact .inl rfl | exact .inr (.inl rfl) | exact .inr (.inr rfl))) pd_int) (ad_cons (pd_var (i := 1) (by rfl) (by first | exact .inl rfl | exact .inr (.inl rfl) | exact .inr (.inr rfl))) ad_nil))) (pd_var (i := 3) (by rfl) (by first | exact .inl rfl | exact .inr (.inl rfl) | exact .inr (.inr rfl)))))))) sd_nil))))
/-! ### need_all -/
def g_need_all : DE → Option Out := (sSeq (sExpr (eCall F_need_island (aCons (eVar 0) (aCons (eVar 1) aNil)))) (sSeq (sIf (tOrF (tNotF (eTru (e1 (dIsi "tuple") (eVar 2)))) (tNotF (eTru (eChain dLe dLe (eC (.int 2)) (e1 dLen (eVar 2)) (e2 dAdd (eVar 1) (eC (.int 1))))))) sNever sNil) (sSeq (sIf (tNotF (eTru (eCall F_are_values (aCons (e1 dLen (eVar 2)) (aCons (e2 dAdd (e2 dMul (eVar 0) (eVar 1)) (eC (.int 1))) (aCons (eVar 2) aNil)))))) sNever sNil) sNil)))
def F_need_all : List DV → Option DV := fnF 3 g_need_all
theorem sc_need_all : FnScope ["arms", "length", "values"] ["arms", "length", "values"] (defScope (top 36)) := ⟨by rfl, by rfl, by rfl, by decide +kernel, by rfl, by decide +kernel, by decide +kernel⟩
theorem ok_need_all (M : MF mg) (F : FunD K "need_all" "need_all" (defArgs (top 36)) (defBody (top 36)) (defScope (top 36)) [] [] (He.fAd K ("need_all", none)) fd) (hm : mg "need_all" = some (.ref (He.fAd K ("need_all", none)))) (c_are_values : C8.Cal P w K mg base 8 "are_values" (spD ⟨P, w, T⟩ 3 F_are_values) []) (c_need_island : C8.Cal P w K mg base 8 "need_island" (spD ⟨P, w, T⟩ 2 F_need_island) []) : C8.Cal P w K mg base 12 "need_all" (spD ⟨P, w, T⟩ 3 F_need_all) [] := by
  refine cal_fd (k := 11) (N := ["arms", "length", "values"]) (ps := ["arms", "length", "values"]) (g := g_need_all) F hm sc_need_all (fun _ _ _ _ _ _ us hl => match us, hl with | [_, _, _], _ => rfl) (fun A outer s H E hr => ?_)
  exact (sd_cons (sd_expr (pd_call c_need_island hr (by decide) (by rfl) (n := 2) (ad_cons (pd_var (i := 0) (by rfl) (by first | exact .inl rfl | exact .inr (.inl rfl) | exact .inr (.inr rfl))) (ad_cons (pd_var (i := 1) (by rfl) (by first | exact .inl rfl | exact .inr (.inl rfl) | exact .inr (.inr rfl))) ad_nil)))) (sd_cons (sd_if (PW.pt (wd_or (td_not (td_tru (pd_isi (.inr (.inr (.inl rfl))) M.isinstance M.tuple (by rfl) (pd_var (i := 2) (by rfl) (by first | exact .inl rfl | exact .inr (.inl rfl) | exact .inr (.inr rfl)))))) (pw_or1 (td_not (td_chain (c_le hr) (c_le hr) pd_int (pd_len M.len (pd_var (i := 2) (by rfl) (by first | exact .inl rfl | exact .inr (.inl rfl) | exact .inr (.inr rfl)))) (pd_add (pd_var (i := 1) (by rfl) (by first | exact .inl rfl | exact .inr (.inl rfl) | exact .inr (.inr rfl))) pd_int)))))) sd_never sd_nil) (sd_cons (sd_if (td_not (td_tru (pd_call c_are_values hr (by decide) (by rfl) (n := 3) (ad_cons (pd_len M.len (pd_var (i := 2) (by rfl) (by first | exact .inl rfl | exact .inr (.inl rfl) | exact .inr (.inr rfl)))) (ad_cons (pd_add (pd_mul (pd_var (i := 0) (by rfl) (by first | exact .inl rfl | exact .inr (.inl rfl) | exact .inr (.inr rfl))) (pd_var (i := 1) (by rfl) (by first | exact .inl rfl | exact .inr (.inl rfl) | exact .inr (.inr rfl)))) pd_int) (ad_cons (pd_var (i := 2) (by rfl) (by first | exact .inl rfl | exact .inr (.inl rfl) | exact .inr (.inr rfl))) ad_nil)))))) sd_never sd_nil) sd_nil)))
/-! ### arm_bests -/
def g_arm_bests : DE → Option Out := (sSeq (sSet false 5 (e2 dAdd (eC (.int 1)) (e2 dMul (eVar 4) (eVar 1)))) (sSeq (sSet false 6 (eDct1 (eTupL (lCons (eVar 3) (lCons (eTupL lNil) lNil))) (eTupL (lCons (eC (.int 0)) (lCons (eTupL lNil) lNil))))) (sSeq (sFor (iRange (eVar 1)) (gtN 7) (sClr [7, 9, 10, 11, 12, 13, 14, 15, 16] (sSeq (sSet true 9 eDct0) (sSeq (sFor (iKeys (eVar 6)) (gtT [10, 11]) (sClr [10, 11, 12, 13, 14, 15, 16] (sSeq (sTup [13, 14] (e2 dGet (eVar 6) (eTupL (lCons (eVar 10) (lCons (eVar 11) lNil))))) (sSeq (sFor (iRange (e1 dLen (eVar 2))) (gtN 12) (sClr [12, 15, 16] (sSeq (sIf (tOrF (eTru (e2 dEq (eVar 12) (eVar 10))) (tAndF (eTru (e2 dNe (eVar 12) (eVar 3))) (eTru (e2 (dIn true) (eVar 12) (eVar 11))))) (sSeq (sSet false 15 (eIf (eTru (e2 dEq (eVar 12) (eVar 10))) (eVar 11) (e1 dTuple (e1 dSorted (eLstL (lStar (eVar 11) (lCons (eVar 12) lNil))))))) (sSeq (sSet false 16 (eTupL (lCons (e2 dAdd (eVar 13) (e2 dIx (e2 dIx (eVar 2) (eVar 12)) (e2 dAdd (eVar 5) (eVar 7)))) (lCons (eTupL (lStar (eVar 14) (lCons (eVar 12) lNil))) lNil)))) (sSeq (sIf (tOrF (eTru (e2 (dIn true) (eTupL (lCons (eVar 12) (lCons (eVar 15) lNil))) (eRd 9))) (eTru (e2 dGt (eVar 16) (e2 dGet (eRd 9) (eTupL (lCons (eVar 12) (lCons (eVar 15) lNil))))))) (sSeq (sPut 9 (eVar 16) (eTupL (lCons (eVar 12) (lCons (eVar 15) lNil)))) sNil) sNil) sNil))) sNil) sNil))) sNil)))) (sSeq (sFrz 6 9) sNil))))) (sSeq (sSet true 8 eDct0) (sSeq (sFor (iKeys (eVar 6)) (gtT [10, 11]) (sClr [] (sSeq (sPut 8 (e2 dMax2 (e3 dGet2 (eRd 8) (eVar 11) (e2 dGet (eVar 6) (eTupL (lCons (eVar 10) (lCons (eVar 11) lNil))))) (e2 dGet (eVar 6) (eTupL (lCons (eVar 10) (lCons (eVar 11) lNil))))) (eVar 11)) sNil))) (sSeq (sRetO 8) sNil))))))
def F_arm_bests : List DV → Option DV := fnF 17 g_arm_bests
theorem sc_arm_bests : FnScope ["arms", "length", "values", "hub", "arm", "first", "rows", "step", "found", "more", "last", "used", "land", "worth", "cells", "there", "part"] ["arms", "length", "values", "hub", "arm"] (defScope (top 37)) := ⟨by rfl, by rfl, by rfl, by decide +kernel, by rfl, by decide +kernel, by decide +kernel⟩
theorem ok_arm_bests (M : MF mg) (F : FunD K "arm_bests" "arm_bests" (defArgs (top 37)) (defBody (top 37)) (defScope (top 37)) [] [] (He.fAd K ("arm_bests", none)) fd) (hm : mg "arm_bests" = some (.ref (He.fAd K ("arm_bests", none)))) : C8.Cal P w K mg base 4 "arm_bests" (spD ⟨P, w, T⟩ 5 F_arm_bests) [] := by
  refine cal_fd (k := 3) (N := ["arms", "length", "values", "hub", "arm", "first", "rows", "step", "found", "more", "last", "used", "land", "worth", "cells", "there", "part"]) (ps := ["arms", "length", "values", "hub", "arm"]) (g := g_arm_bests) F hm sc_arm_bests (fun _ _ _ _ _ _ us hl => match us, hl with | [_, _, _, _, _], _ => rfl) (fun A outer s H E hr => ?_)
  exact (sd_cons (sd_set false (i := 5) sc_arm_bests.nd (by rfl) (by first | exact .inl rfl | exact .inr rfl) (pd_add pd_int (pd_mul (pd_var (i := 4) (by rfl) (by first | exact .inl rfl | exact .inr (.inl rfl) | exact .inr (.inr rfl))) (pd_var (i := 1) (by rfl) (by first | exact .inl rfl | exact .inr (.inl rfl) | exact .inr (.inr rfl))))) (by first | exact .inl rfl | exact .inr rfl)) (sd_cons (sd_set false (i := 6) sc_arm_bests.nd (by rfl) (by first | exact .inl rfl | exact .inr rfl) (pd_frz (pd_dct1 hr (pd_tupL (ld_cons (pd_var (i := 3) (by rfl) (by first | exact .inl rfl | exact .inr (.inl rfl) | exact .inr (.inr rfl))) (ld_cons (pd_tupL ld_nil) ld_nil))) (pd_tupL (ld_cons pd_int (ld_cons (pd_tupL ld_nil) ld_nil))))) (by first | exact .inl rfl | exact .inr rfl)) (sd_cons (sd_for PassesOwn.never (by rfl) (id_range M.range (pd_var (i := 1) (by rfl) (by first | exact .inl rfl | exact .inr (.inl rfl) | exact .inr (.inr rfl)))) (gd_name (i := 7) sc_arm_bests.nd (by rfl) (by first | exact .inl rfl | exact .inr rfl) (by first | exact .inl rfl | exact .inr rfl)) (sd_clr [7, 9, 10, 11, 12, 13, 14, 15, 16] (sd_cons (sd_set true (i := 9) sc_arm_bests.nd (by rfl) (by first | exact .inl rfl | exact .inr rfl) pd_dct0 (by first | exact .inl rfl | exact .inr rfl)) (sd_cons (sd_for PassesOwn.never (by rfl) (id_keys (pd_var (i := 6) (by rfl) (by first | exact .inl rfl | exact .inr (.inl rfl) | exact .inr (.inr rfl)))) (gd_tup (by rfl) (gds_cons (i := 10) sc_arm_bests.nd (by rfl) (by first | exact .inl rfl | exact .inr rfl) (by first | exact .inl rfl | exact .inr rfl) (gds_cons (i := 11) sc_arm_bests.nd (by rfl) (by first | exact .inl rfl | exact .inr rfl) (by first | exact .inl rfl | exact .inr rfl) gds_nil))) (sd_clr [10, 11, 12, 13, 14, 15, 16] (sd_cons (sd_tup (by rfl) (pd_dget hr (pd_var (i := 6) (by rfl) (by first | exact .inl rfl | exact .inr (.inl rfl) | exact .inr (.inr rfl))) (pd_tupL (ld_cons (pd_var (i := 10) (by rfl) (by first | exact .inl rfl | exact .inr (.inl rfl) | exact .inr (.inr rfl))) (ld_cons (pd_var (i := 11) (by rfl) (by first | exact .inl rfl | exact .inr (.inl rfl) | exact .inr (.inr rfl))) ld_nil)))) (gds_cons (i := 13) sc_arm_bests.nd (by rfl) (by first | exact .inl rfl | exact .inr rfl) (by first | exact .inl rfl | exact .inr rfl) (gds_cons (i := 14) sc_arm_bests.nd (by rfl) (by first | exact .inl rfl | exact .inr rfl) (by first | exact .inl rfl | exact .inr rfl) gds_nil))) (sd_cons (sd_for PassesOwn.never (by rfl) (id_range M.range (pd_len M.len (pd_var (i := 2) (by rfl) (by first | exact .inl rfl | exact .inr (.inl rfl) | exact .inr (.inr rfl))))) (gd_name (i := 12) sc_arm_bests.nd (by rfl) (by first | exact .inl rfl | exact .inr rfl) (by first | exact .inl rfl | exact .inr rfl)) (sd_clr [12, 15, 16] (sd_cons (sd_if (PW.pt (wd_or (td_c (c_eq hr) (pd_var (i := 12) (by rfl) (by first | exact .inl rfl | exact .inr (.inl rfl) | exact .inr (.inr rfl))) (pd_var (i := 10) (by rfl) (by first | exact .inl rfl | exact .inr (.inl rfl) | exact .inr (.inr rfl)))) (pw_or1 (PW.pt (wd_and (td_c (c_ne hr) (pd_var (i := 12) (by rfl) (by first | exact .inl rfl | exact .inr (.inl rfl) | exact .inr (.inr rfl))) (pd_var (i := 3) (by rfl) (by first | exact .inl rfl | exact .inr (.inl rfl) | exact .inr (.inr rfl)))) (pw_and1 (td_c (c_nin hr) (pd_var (i := 12) (by rfl) (by first | exact .inl rfl | exact .inr (.inl rfl) | exact .inr (.inr rfl))) (pd_var (i := 11) (by rfl) (by first | exact .inl rfl | exact .inr (.inl rfl) | exact .inr (.inr rfl)))))))))) (sd_cons (sd_set false (i := 15) sc_arm_bests.nd (by rfl) (by first | exact .inl rfl | exact .inr rfl) (pd_if (td_c (c_eq hr) (pd_var (i := 12) (by rfl) (by first | exact .inl rfl | exact .inr (.inl rfl) | exact .inr (.inr rfl))) (pd_var (i := 10) (by rfl) (by first | exact .inl rfl | exact .inr (.inl rfl) | exact .inr (.inr rfl)))) (pd_var (i := 11) (by rfl) (by first | exact .inl rfl | exact .inr (.inl rfl) | exact .inr (.inr rfl))) (pd_totuple M.tuple (pd_frz (pd_sorted hr M.sorted (pd_frz (pd_lstL (ld_star (pd_var (i := 11) (by rfl) (by first | exact .inl rfl | exact .inr (.inl rfl) | exact .inr (.inr rfl))) (ld_cons (pd_var (i := 12) (by rfl) (by first | exact .inl rfl | exact .inr (.inl rfl) | exact .inr (.inr rfl))) ld_nil)))))))) (by first | exact .inl rfl | exact .inr rfl)) (sd_cons (sd_set false (i := 16) sc_arm_bests.nd (by rfl) (by first | exact .inl rfl | exact .inr rfl) (pd_tupL (ld_cons (pd_add (pd_var (i := 13) (by rfl) (by first | exact .inl rfl | exact .inr (.inl rfl) | exact .inr (.inr rfl))) (pd_item (pd_item (pd_var (i := 2) (by rfl) (by first | exact .inl rfl | exact .inr (.inl rfl) | exact .inr (.inr rfl))) (pd_var (i := 12) (by rfl) (by first | exact .inl rfl | exact .inr (.inl rfl) | exact .inr (.inr rfl)))) (pd_add (pd_var (i := 5) (by rfl) (by first | exact .inl rfl | exact .inr (.inl rfl) | exact .inr (.inr rfl))) (pd_var (i := 7) (by rfl) (by first | exact .inl rfl | exact .inr (.inl rfl) | exact .inr (.inr rfl)))))) (ld_cons (pd_tupL (ld_star (pd_var (i := 14) (by rfl) (by first | exact .inl rfl | exact .inr (.inl rfl) | exact .inr (.inr rfl))) (ld_cons (pd_var (i := 12) (by rfl) (by first | exact .inl rfl | exact .inr (.inl rfl) | exact .inr (.inr rfl))) ld_nil))) ld_nil))) (by first | exact .inl rfl | exact .inr rfl)) (sd_cons (sd_if (PW.pt (wd_or (td_c (c_nin hr) (pd_tupL (ld_cons (pd_var (i := 12) (by rfl) (by first | exact .inl rfl | exact .inr (.inl rfl) | exact .inr (.inr rfl))) (ld_cons (pd_var (i := 15) (by rfl) (by first | exact .inl rfl | exact .inr (.inl rfl) | exact .inr (.inr rfl))) ld_nil))) (pd_rdv (i := 9) (by rfl) (by first | exact .inl rfl | exact .inr (.inl rfl) | exact .inr (.inr rfl)))) (pw_or1 (td_c (c_gt hr) (pd_var (i := 16) (by rfl) (by first | exact .inl rfl | exact .inr (.inl rfl) | exact .inr (.inr rfl))) (pd_dget hr (pd_rdv (i := 9) (by rfl) (by first | exact .inl rfl | exact .inr (.inl rfl) | exact .inr (.inr rfl))) (pd_tupL (ld_cons (pd_var (i := 12) (by rfl) (by first | exact .inl rfl | exact .inr (.inl rfl) | exact .inr (.inr rfl))) (ld_cons (pd_var (i := 15) (by rfl) (by first | exact .inl rfl | exact .inr (.inl rfl) | exact .inr (.inr rfl))) ld_nil)))))))) (sd_cons (sd_put hr (i := 9) (by rfl) (by first | exact .inl rfl | exact .inr (.inl rfl) | exact .inr (.inr rfl)) (pd_var (i := 16) (by rfl) (by first | exact .inl rfl | exact .inr (.inl rfl) | exact .inr (.inr rfl))) (pd_tupL (ld_cons (pd_var (i := 12) (by rfl) (by first | exact .inl rfl | exact .inr (.inl rfl) | exact .inr (.inr rfl))) (ld_cons (pd_var (i := 15) (by rfl) (by first | exact .inl rfl | exact .inr (.inl rfl) | exact .inr (.inr rfl))) ld_nil)))) sd_nil) sd_nil) sd_nil))) sd_nil) sd_nil))) sd_nil)))) (sd_cons (sd_frz (i := 6) (j := 9) sc_arm_bests.nd (by rfl) (by first | exact .inl rfl | exact .inr rfl) (by rfl) (by first | exact .inl rfl | exact .inr (.inl rfl) | exact .inr (.inr rfl)) (by first | exact .inl rfl | exact .inr rfl)) sd_nil))))) (sd_cons (sd_set true (i := 8) sc_arm_bests.nd (by rfl) (by first | exact .inl rfl | exact .inr rfl) pd_dct0 (by first | exact .inl rfl | exact .inr rfl)) (sd_cons (sd_for PassesOwn.never (by rfl) (id_keys (pd_var (i := 6) (by rfl) (by first | exact .inl rfl | exact .inr (.inl rfl) | exact .inr (.inr rfl)))) (gd_tup (by rfl) (gds_cons (i := 10) sc_arm_bests.nd (by rfl) (by first | exact .inl rfl | exact .inr rfl) (by first | exact .inl rfl | exact .inr rfl) (gds_cons (i := 11) sc_arm_bests.nd (by rfl) (by first | exact .inl rfl | exact .inr rfl) (by first | exact .inl rfl | exact .inr rfl) gds_nil))) (sd_clr [] (sd_cons (sd_put hr (i := 8) (by rfl) (by first | exact .inl rfl | exact .inr (.inl rfl) | exact .inr (.inr rfl)) (pd_max2 hr M.max (pd_dget2 hr (pd_rdv (i := 8) (by rfl) (by first | exact .inl rfl | exact .inr (.inl rfl) | exact .inr (.inr rfl))) (pd_var (i := 11) (by rfl) (by first | exact .inl rfl | exact .inr (.inl rfl) | exact .inr (.inr rfl))) (pd_dget hr (pd_var (i := 6) (by rfl) (by first | exact .inl rfl | exact .inr (.inl rfl) | exact .inr (.inr rfl))) (pd_tupL (ld_cons (pd_var (i := 10) (by rfl) (by first | exact .inl rfl | exact .inr (.inl rfl) | exact .inr (.inr rfl))) (ld_cons (pd_var (i := 11) (by rfl) (by first | exact .inl rfl | exact .inr (.inl rfl) | exact .inr (.inr rfl))) ld_nil)))) ⟨by rfl, by rfl, by rfl, by rfl⟩) (pd_dget hr (pd_var (i := 6) (by rfl) (by first | exact .inl rfl | exact .inr (.inl rfl) | exact .inr (.inr rfl))) (pd_tupL (ld_cons (pd_var (i := 10) (by rfl) (by first | exact .inl rfl | exact .inr (.inl rfl) | exact .inr (.inr rfl))) (ld_cons (pd_var (i := 11) (by rfl) (by first | exact .inl rfl | exact .inr (.inl rfl) | exact .inr (.inr rfl))) ld_nil))))) (pd_var (i := 11) (by rfl) (by first | exact .inl rfl | exact .inr (.inl rfl) | exact .inr (.inr rfl)))) sd_nil))) (sd_cons (sd_retO (j := 8) (by rfl) (by first | exact .inl rfl | exact .inr (.inl rfl) | exact .inr (.inr rfl))) sd_nil))))))
end K08
end

section
set_option Elab.async false
set_option linter.all false
set_option maxRecDepth 100000
set_option maxHeartbeats 4000000
/-! the defs of the linked text as functions of data: printed by gen.py. -/
namespace K08
open PySem PySem.Spec PyProof.Rows L2 FD
variable {P : Program} {w : World} {K : PySem.W.Frag} {mg : Str → Option Value} {base : Heap} {fd : FuncData} {T : List Addr}
/-! ### best_for_hub -/
def g_best_for_hub : DE → Option Out := (sSeq (sSet false 4 (eDct1 (eTupL lNil) (eTupL (lCons (e2 dIx (e2 dIx (eVar 2) (eVar 3)) (eC (.int 0))) (lCons (eTupL (lCons (eVar 3) lNil)) lNil))))) (sSeq (sFor (iRange (eVar 0)) (gtN 5) (sClr [5, 6, 9, 10, 11, 7, 8, 12, 13] (sSeq (sPar false 9 true 10 (aCons (eCall F_arm_bests (aCons (eVar 0) (aCons (eVar 1) (aCons (eVar 2) (aCons (eVar 3) (aCons (eVar 5) aNil)))))) (aCons eDct0 aNil))) (sSeq (sFor (iKeys (eVar 4)) (gtN 6) (sClr [6, 11, 7, 8, 12, 13] (sSeq (sTup [7, 8] (e2 dGet (eVar 4) (eVar 6))) (sSeq (sFor (iKeys (eVar 9)) (gtN 11) (sClr [11, 12, 13] (sSeq (sIf (tNotF (eTru (FDG.eAny true [14] (iSeq (eVar 11)) (gtN 14) (e2 (dIn false) (eVar 14) (eVar 6))))) (sSeq (sSet false 12 (e1 dTuple (e1 dSorted (eLstL (lStar (eVar 6) (lStar (eVar 11) lNil)))))) (sSeq (sSet false 13 (eTupL (lCons (e2 dAdd (eVar 7) (e2 dIx (e2 dGet (eVar 9) (eVar 11)) (eC (.int 0)))) (lCons (eTupL (lStar (eVar 8) (lStar (e2 dIx (e2 dGet (eVar 9) (eVar 11)) (eC (.int 1))) lNil))) lNil)))) (sSeq (sIf (tOrF (eTru (e2 (dIn true) (eVar 12) (eRd 10))) (eTru (e2 dGt (eVar 13) (e2 dGet (eRd 10) (eVar 12))))) (sSeq (sPut 10 (eVar 13) (eVar 12)) sNil) sNil) sNil))) sNil) sNil))) sNil)))) (sSeq (sFrz 4 10) sNil))))) (sSeq (sTup [7, 8] (e2 dGet (eVar 4) (e1 dTuple (eLc [14] (iRange (e1 dLen (eVar 2))) (gtN 14) (eTru (e2 dNe (eVar 14) (eVar 3))) (eVar 14))))) (sSeq (sRet (eTupL (lCons (eVar 7) (lCons (eTupL (lCons (eVar 0) (lCons (eVar 8) lNil))) lNil)))) sNil))))
def F_best_for_hub : List DV → Option DV := fnF 15 g_best_for_hub
theorem sc_best_for_hub : FnScope ["arms", "length", "values", "hub", "found", "arm", "used", "worth", "cells", "some", "more", "lot", "there", "part", "land"] ["arms", "length", "values", "hub"] (defScope (top 38)) := ⟨by rfl, by rfl, by rfl, by decide +kernel, by rfl, by decide +kernel, by decide +kernel⟩
theorem ok_best_for_hub (M : MF mg) (F : FunD K "best_for_hub" "best_for_hub" (defArgs (top 38)) (defBody (top 38)) (defScope (top 38)) [] [] (He.fAd K ("best_for_hub", none)) fd) (hm : mg "best_for_hub" = some (.ref (He.fAd K ("best_for_hub", none)))) (c_arm_bests : C8.Cal P w K mg base 4 "arm_bests" (spD ⟨P, w, T⟩ 5 F_arm_bests) []) (TL : TLn K base mg T "best_for_hub") : C8.Cal P w K mg base 8 "best_for_hub" (spD ⟨P, w, T⟩ 4 F_best_for_hub) [] := by
  refine cal_fd (k := 7) (N := ["arms", "length", "values", "hub", "found", "arm", "used", "worth", "cells", "some", "more", "lot", "there", "part", "land"]) (ps := ["arms", "length", "values", "hub"]) (g := g_best_for_hub) F hm sc_best_for_hub (fun _ _ _ _ _ _ us hl => match us, hl with | [_, _, _, _], _ => rfl) (fun A outer s H E hr => ?_)
  exact (sd_cons (sd_set false (i := 4) sc_best_for_hub.nd (by rfl) (by first | exact .inl rfl | exact .inr rfl) (pd_frz (pd_dct1 hr (pd_tupL ld_nil) (pd_tupL (ld_cons (pd_item (pd_item (pd_var (i := 2) (by rfl) (by first | exact .inl rfl | exact .inr (.inl rfl) | exact .inr (.inr rfl))) (pd_var (i := 3) (by rfl) (by first | exact .inl rfl | exact .inr (.inl rfl) | exact .inr (.inr rfl)))) pd_int) (ld_cons (pd_tupL (ld_cons (pd_var (i := 3) (by rfl) (by first | exact .inl rfl | exact .inr (.inl rfl) | exact .inr (.inr rfl))) ld_nil)) ld_nil))))) (by first | exact .inl rfl | exact .inr rfl)) (sd_cons (sd_for PassesOwn.never (by rfl) (id_range M.range (pd_var (i := 0) (by rfl) (by first | exact .inl rfl | exact .inr (.inl rfl) | exact .inr (.inr rfl)))) (gd_name (i := 5) sc_best_for_hub.nd (by rfl) (by first | exact .inl rfl | exact .inr rfl) (by first | exact .inl rfl | exact .inr rfl)) (sd_clr [5, 6, 9, 10, 11, 7, 8, 12, 13] (sd_cons (sd_par false true (i := 9) (j := 10) (by rfl) (by rfl) sc_best_for_hub.nd (by rfl) (by rfl) (by decide) (by rfl) (by rfl) (ad_cons (pd_call c_arm_bests hr (by decide) (by rfl) (n := 5) (ad_cons (pd_var (i := 0) (by rfl) (by first | exact .inl rfl | exact .inr (.inl rfl) | exact .inr (.inr rfl))) (ad_cons (pd_var (i := 1) (by rfl) (by first | exact .inl rfl | exact .inr (.inl rfl) | exact .inr (.inr rfl))) (ad_cons (pd_var (i := 2) (by rfl) (by first | exact .inl rfl | exact .inr (.inl rfl) | exact .inr (.inr rfl))) (ad_cons (pd_var (i := 3) (by rfl) (by first | exact .inl rfl | exact .inr (.inl rfl) | exact .inr (.inr rfl))) (ad_cons (pd_var (i := 5) (by rfl) (by first | exact .inl rfl | exact .inr (.inl rfl) | exact .inr (.inr rfl))) ad_nil)))))) (ad_cons pd_dct0 ad_nil)) (by rfl)) (sd_cons (sd_for PassesOwn.never (by rfl) (id_keys (pd_var (i := 4) (by rfl) (by first | exact .inl rfl | exact .inr (.inl rfl) | exact .inr (.inr rfl)))) (gd_name (i := 6) sc_best_for_hub.nd (by rfl) (by first | exact .inl rfl | exact .inr rfl) (by first | exact .inl rfl | exact .inr rfl)) (sd_clr [6, 11, 7, 8, 12, 13] (sd_cons (sd_tup (by rfl) (pd_dget hr (pd_var (i := 4) (by rfl) (by first | exact .inl rfl | exact .inr (.inl rfl) | exact .inr (.inr rfl))) (pd_var (i := 6) (by rfl) (by first | exact .inl rfl | exact .inr (.inl rfl) | exact .inr (.inr rfl)))) (gds_cons (i := 7) sc_best_for_hub.nd (by rfl) (by first | exact .inl rfl | exact .inr rfl) (by first | exact .inl rfl | exact .inr rfl) (gds_cons (i := 8) sc_best_for_hub.nd (by rfl) (by first | exact .inl rfl | exact .inr rfl) (by first | exact .inl rfl | exact .inr rfl) gds_nil))) (sd_cons (sd_for PassesOwn.never (by rfl) (id_keys (pd_var (i := 9) (by rfl) (by first | exact .inl rfl | exact .inr (.inl rfl) | exact .inr (.inr rfl)))) (gd_name (i := 11) sc_best_for_hub.nd (by rfl) (by first | exact .inl rfl | exact .inr rfl) (by first | exact .inl rfl | exact .inr rfl)) (sd_clr [11, 12, 13] (sd_cons (sd_if (td_not (td_tru (FDG.pd_any hr (by rfl) TL.mem M.any TL.tb (by rfl) (own := [(("land" : PySem.Str), 14)]) ⟨(blk_of (N := ["arms", "length", "values", "hub", "found", "arm", "used", "worth", "cells", "some", "more", "lot", "there", "part", "land"]) (sc := defScope (top 38)) (by decide +kernel)), sc_best_for_hub.nd, by decide +kernel, by rfl, by rfl, (by intro _; rfl)⟩ (id_seq (pd_var (i := 11) (by rfl) (by first | exact .inl rfl | exact .inr (.inl rfl) | exact .inr (.inr rfl)))) (by decide) (fun _ _ _ _ => (gd_name (i := 14) sc_best_for_hub.nd (by rfl) (by first | exact .inl rfl | exact .inr rfl) (by first | exact .inl rfl | exact .inr rfl))) (fun _ _ _ _ => (pd_c (c_in (FDG.room_gen hr)) (pd_var (i := 14) (by rfl) (by first | exact .inl rfl | exact .inr (.inl rfl) | exact .inr (.inr rfl))) (pd_var (i := 6) (by rfl) (by first | exact .inl rfl | exact .inr (.inl rfl) | exact .inr (.inr rfl)))))))) (sd_cons (sd_set false (i := 12) sc_best_for_hub.nd (by rfl) (by first | exact .inl rfl | exact .inr rfl) (pd_totuple M.tuple (pd_frz (pd_sorted hr M.sorted (pd_frz (pd_lstL (ld_star (pd_var (i := 6) (by rfl) (by first | exact .inl rfl | exact .inr (.inl rfl) | exact .inr (.inr rfl))) (ld_star (pd_var (i := 11) (by rfl) (by first | exact .inl rfl | exact .inr (.inl rfl) | exact .inr (.inr rfl))) ld_nil))))))) (by first | exact .inl rfl | exact .inr rfl)) (sd_cons (sd_set false (i := 13) sc_best_for_hub.nd (by rfl) (by first | exact .inl rfl | exact .inr rfl) (pd_tupL (ld_cons (pd_add (pd_var (i := 7) (by rfl) (by first | exact .inl rfl | exact .inr (.inl rfl) | exact .inr (.inr rfl))) (pd_item (pd_dget hr (pd_var (i := 9) (by rfl) (by first | exact .inl rfl | exact .inr (.inl rfl) | exact .inr (.inr rfl))) (pd_var (i := 11) (by rfl) (by first | exact .inl rfl | exact .inr (.inl rfl) | exact .inr (.inr rfl)))) pd_int)) (ld_cons (pd_tupL (ld_star (pd_var (i := 8) (by rfl) (by first | exact .inl rfl | exact .inr (.inl rfl) | exact .inr (.inr rfl))) (ld_star (pd_item (pd_dget hr (pd_var (i := 9) (by rfl) (by first | exact .inl rfl | exact .inr (.inl rfl) | exact .inr (.inr rfl))) (pd_var (i := 11) (by rfl) (by first | exact .inl rfl | exact .inr (.inl rfl) | exact .inr (.inr rfl)))) pd_int) ld_nil))) ld_nil))) (by first | exact .inl rfl | exact .inr rfl)) (sd_cons (sd_if (PW.pt (wd_or (td_c (c_nin hr) (pd_var (i := 12) (by rfl) (by first | exact .inl rfl | exact .inr (.inl rfl) | exact .inr (.inr rfl))) (pd_rdv (i := 10) (by rfl) (by first | exact .inl rfl | exact .inr (.inl rfl) | exact .inr (.inr rfl)))) (pw_or1 (td_c (c_gt hr) (pd_var (i := 13) (by rfl) (by first | exact .inl rfl | exact .inr (.inl rfl) | exact .inr (.inr rfl))) (pd_dget hr (pd_rdv (i := 10) (by rfl) (by first | exact .inl rfl | exact .inr (.inl rfl) | exact .inr (.inr rfl))) (pd_var (i := 12) (by rfl) (by first | exact .inl rfl | exact .inr (.inl rfl) | exact .inr (.inr rfl)))))))) (sd_cons (sd_put hr (i := 10) (by rfl) (by first | exact .inl rfl | exact .inr (.inl rfl) | exact .inr (.inr rfl)) (pd_var (i := 13) (by rfl) (by first | exact .inl rfl | exact .inr (.inl rfl) | exact .inr (.inr rfl))) (pd_var (i := 12) (by rfl) (by first | exact .inl rfl | exact .inr (.inl rfl) | exact .inr (.inr rfl)))) sd_nil) sd_nil) sd_nil))) sd_nil) sd_nil))) sd_nil)))) (sd_cons (sd_frz (i := 4) (j := 10) sc_best_for_hub.nd (by rfl) (by first | exact .inl rfl | exact .inr rfl) (by rfl) (by first | exact .inl rfl | exact .inr (.inl rfl) | exact .inr (.inr rfl)) (by first | exact .inl rfl | exact .inr rfl)) sd_nil))))) (sd_cons (sd_tup (by rfl) (pd_dget hr (pd_var (i := 4) (by rfl) (by first | exact .inl rfl | exact .inr (.inl rfl) | exact .inr (.inr rfl))) (pd_totuple M.tuple (pd_frz (pd_lc (by rfl) sc_best_for_hub.nd (id_range M.range (pd_len M.len (pd_var (i := 2) (by rfl) (by first | exact .inl rfl | exact .inr (.inl rfl) | exact .inr (.inr rfl))))) (own := [(("land" : PySem.Str), 14)]) (blk_of (N := ["arms", "length", "values", "hub", "found", "arm", "used", "worth", "cells", "some", "more", "lot", "there", "part", "land"]) (sc := defScope (top 38)) (by decide +kernel)) (by decide) (fun _ _ _ _ _ => (gd_name (i := 14) sc_best_for_hub.nd (by rfl) (by first | exact .inl rfl | exact .inr rfl) (by first | exact .inl rfl | exact .inr rfl))) (fun _ _ _ _ _ => tds_one (td_c (c_ne hr) (pd_var (i := 14) (by rfl) (by first | exact .inl rfl | exact .inr (.inl rfl) | exact .inr (.inr rfl))) (pd_var (i := 3) (by rfl) (by first | exact .inl rfl | exact .inr (.inl rfl) | exact .inr (.inr rfl))))) (fun _ _ _ _ _ => (pd_var (i := 14) (by rfl) (by first | exact .inl rfl | exact .inr (.inl rfl) | exact .inr (.inr rfl)))))))) (gds_cons (i := 7) sc_best_for_hub.nd (by rfl) (by first | exact .inl rfl | exact .inr rfl) (by first | exact .inl rfl | exact .inr rfl) (gds_cons (i := 8) sc_best_for_hub.nd (by rfl) (by first | exact .inl rfl | exact .inr rfl) (by first | exact .inl rfl | exact .inr rfl) gds_nil))) (sd_cons (sd_ret (pd_tupL (ld_cons (pd_var (i := 7) (by rfl) (by first | exact .inl rfl | exact .inr (.inl rfl) | exact .inr (.inr rfl))) (ld_cons (pd_tupL (ld_cons (pd_var (i := 0) (by rfl) (by first | exact .inl rfl | exact .inr (.inl rfl) | exact .inr (.inr rfl))) (ld_cons (pd_var (i := 8) (by rfl) (by first | exact .inl rfl | exact .inr (.inl rfl) | exact .inr (.inr rfl))) ld_nil))) ld_nil)))) sd_nil))))
/-! ### best_of_all -/
def g_best_of_all : DE → Option Out := (sSeq (sRet (e1 dMax (eLc [3] (iRange (e1 dLen (eVar 2))) (gtN 3) tYesF (eCall F_best_for_hub (aCons (eVar 0) (aCons (eVar 1) (aCons (eVar 2) (aCons (eVar 3) aNil)))))))) sNil)
def F_best_of_all : List DV → Option DV := fnF 4 g_best_of_all
theorem sc_best_of_all : FnScope ["arms", "length", "values", "hub"] ["arms", "length", "values"] (defScope (top 39)) := ⟨by rfl, by rfl, by rfl, by decide +kernel, by rfl, by decide +kernel, by decide +kernel⟩
theorem ok_best_of_all (M : MF mg) (F : FunD K "best_of_all" "best_of_all" (defArgs (top 39)) (defBody (top 39)) (defScope (top 39)) [] [] (He.fAd K ("best_of_all", none)) fd) (hm : mg "best_of_all" = some (.ref (He.fAd K ("best_of_all", none)))) (c_best_for_hub : C8.Cal P w K mg base 8 "best_for_hub" (spD ⟨P, w, T⟩ 4 F_best_for_hub) []) : C8.Cal P w K mg base 12 "best_of_all" (spD ⟨P, w, T⟩ 3 F_best_of_all) [] := by
  refine cal_fd (k := 11) (N := ["arms", "length", "values", "hub"]) (ps := ["arms", "length", "values"]) (g := g_best_of_all) F hm sc_best_of_all (fun _ _ _ _ _ _ us hl => match us, hl with | [_, _, _], _ => rfl) (fun A outer s H E hr => ?_)
  exact (sd_cons (sd_ret (pd_max hr M.max (pd_frz (pd_lc (by rfl) sc_best_of_all.nd (id_range M.range (pd_len M.len (pd_var (i := 2) (by rfl) (by first | exact .inl rfl | exact .inr (.inl rfl) | exact .inr (.inr rfl))))) (own := [(("hub" : PySem.Str), 3)]) (blk_of (N := ["arms", "length", "values", "hub"]) (sc := defScope (top 39)) (by decide +kernel)) (by decide) (fun _ _ _ _ _ => (gd_name (i := 3) sc_best_of_all.nd (by rfl) (by first | exact .inl rfl | exact .inr rfl) (by first | exact .inl rfl | exact .inr rfl))) (fun _ _ _ _ _ => tds_nil) (fun _ _ _ _ _ => (pd_call c_best_for_hub hr (by decide) (by rfl) (n := 4) (ad_cons (pd_var (i := 0) (by rfl) (by first | exact .inl rfl | exact .inr (.inl rfl) | exact .inr (.inr rfl))) (ad_cons (pd_var (i := 1) (by rfl) (by first | exact .inl rfl | exact .inr (.inl rfl) | exact .inr (.inr rfl))) (ad_cons (pd_var (i := 2) (by rfl) (by first | exact .inl rfl | exact .inr (.inl rfl) | exact .inr (.inr rfl))) (ad_cons (pd_var (i := 3) (by rfl) (by first | exact .inl rfl | exact .inr (.inl rfl) | exact .inr (.inr rfl))) ad_nil)))))))))) sd_nil)
/-! ### best_map -/
def g_best_map : DE → Option Out := (sSeq (sExpr (eCall F_need_all (aCons (eVar 0) (aCons (eVar 1) (aCons (eVar 2) aNil))))) (sSeq (sRet (eCall F_best_of_all (aCons (eVar 0) (aCons (eVar 1) (aCons (eVar 2) aNil))))) sNil))
def F_best_map : List DV → Option DV := fnF 3 g_best_map
theorem sc_best_map : FnScope ["arms", "length", "values"] ["arms", "length", "values"] (defScope (top 40)) := ⟨by rfl, by rfl, by rfl, by decide +kernel, by rfl, by decide +kernel, by decide +kernel⟩
theorem ok_best_map (M : MF mg) (F : FunD K "best_map" "best_map" (defArgs (top 40)) (defBody (top 40)) (defScope (top 40)) [] [] (He.fAd K ("best_map", none)) fd) (hm : mg "best_map" = some (.ref (He.fAd K ("best_map", none)))) (c_best_of_all : C8.Cal P w K mg base 12 "best_of_all" (spD ⟨P, w, T⟩ 3 F_best_of_all) []) (c_need_all : C8.Cal P w K mg base 12 "need_all" (spD ⟨P, w, T⟩ 3 F_need_all) []) : C8.Cal P w K mg base 16 "best_map" (spD ⟨P, w, T⟩ 3 F_best_map) [] := by
  refine cal_fd (k := 15) (N := ["arms", "length", "values"]) (ps := ["arms", "length", "values"]) (g := g_best_map) F hm sc_best_map (fun _ _ _ _ _ _ us hl => match us, hl with | [_, _, _], _ => rfl) (fun A outer s H E hr => ?_)
  exact (sd_cons (sd_expr (pd_call c_need_all hr (by decide) (by rfl) (n := 3) (ad_cons (pd_var (i := 0) (by rfl) (by first | exact .inl rfl | exact .inr (.inl rfl) | exact .inr (.inr rfl))) (ad_cons (pd_var (i := 1) (by rfl) (by first | exact .inl rfl | exact .inr (.inl rfl) | exact .inr (.inr rfl))) (ad_cons (pd_var (i := 2) (by rfl) (by first | exact .inl rfl | exact .inr (.inl rfl) | exact .inr (.inr rfl))) ad_nil))))) (sd_cons (sd_ret (pd_call c_best_of_all hr (by decide) (by rfl) (n := 3) (ad_cons (pd_var (i := 0) (by rfl) (by first | exact .inl rfl | exact .inr (.inl rfl) | exact .inr (.inr rfl))) (ad_cons (pd_var (i := 1) (by rfl) (by first | exact .inl rfl | exact .inr (.inl rfl) | exact .inr (.inr rfl))) (ad_cons (pd_var (i := 2) (by rfl) (by first | exact .inl rfl | exact .inr (.inl rfl) | exact .inr (.inr rfl))) ad_nil))))) sd_nil))
/-! ### shows_best_map -/
def g_shows_best_map : DE → Option Out := (sSeq (sExpr (eCall F_need_all (aCons (eVar 0) (aCons (eVar 1) (aCons (eVar 2) aNil))))) (sSeq (sSet false 4 (e2 dIx (eCall F_best_of_all (aCons (eVar 0) (aCons (eVar 1) (aCons (eVar 2) aNil)))) (eC (.int 0)))) (sSeq (sIf (tOrF (tNotF (eTru (e1 (dIsi "tuple") (eVar 3)))) (tOrF (eTru (e2 dNe (e1 dLen (eVar 3)) (eC (.int 2)))) (tOrF (tNotF (eTru (eCall F_is_in (aCons (e2 dIx (eVar 3) (eC (.int 0))) (aCons (eVar 4) (aCons (eVar 4) aNil)))))) (tNotF (eTru (eCall F_is_map (aCons (e2 dIx (eVar 3) (eC (.int 1))) aNil))))))) (sSeq (sRet (eC (.bool false))) sNil) sNil) (sSeq (sIf (tOrF (eTru (e2 dNe (e2 dIx (e2 dIx (eVar 3) (eC (.int 1))) (eC (.int 0))) (eVar 0))) (tOrF (eTru (e2 dNe (eCall F_length_of (aCons (e2 dIx (eVar 3) (eC (.int 1))) aNil)) (eVar 1))) (eTru (e2 dNe (eCall F_lands_of (aCons (e2 dIx (eVar 3) (eC (.int 1))) aNil)) (e1 dLen (eVar 2)))))) (sSeq (sRet (eC (.bool false))) sNil) sNil) (sSeq (sRet (e2 dEq (eCall F_worth_of (aCons (e2 dIx (eVar 3) (eC (.int 1))) (aCons (eVar 2) aNil))) (eVar 4))) sNil)))))
def F_shows_best_map : List DV → Option DV := fnF 5 g_shows_best_map
theorem sc_shows_best_map : FnScope ["arms", "length", "values", "value", "best"] ["arms", "length", "values", "value"] (defScope (top 41)) := ⟨by rfl, by rfl, by rfl, by decide +kernel, by rfl, by decide +kernel, by decide +kernel⟩
theorem ok_shows_best_map (M : MF mg) (F : FunD K "shows_best_map" "shows_best_map" (defArgs (top 41)) (defBody (top 41)) (defScope (top 41)) [] [] (He.fAd K ("shows_best_map", none)) fd) (hm : mg "shows_best_map" = some (.ref (He.fAd K ("shows_best_map", none)))) (c_best_of_all : C8.Cal P w K mg base 12 "best_of_all" (spD ⟨P, w, T⟩ 3 F_best_of_all) []) (c_is_in : C8.Cal P w K mg base 4 "is_in" (spD ⟨P, w, T⟩ 3 F_is_in) []) (c_is_map : C8.Cal P w K mg base 16 "is_map" (spD ⟨P, w, T⟩ 1 F_is_map) []) (c_lands_of : C8.Cal P w K mg base 4 "lands_of" (spD ⟨P, w, T⟩ 1 F_lands_of) []) (c_length_of : C8.Cal P w K mg base 4 "length_of" (spD ⟨P, w, T⟩ 1 F_length_of) []) (c_need_all : C8.Cal P w K mg base 12 "need_all" (spD ⟨P, w, T⟩ 3 F_need_all) []) (c_worth_of : C8.Cal P w K mg base 4 "worth_of" (spD ⟨P, w, T⟩ 2 F_worth_of) []) : C8.Cal P w K mg base 20 "shows_best_map" (spD ⟨P, w, T⟩ 4 F_shows_best_map) [] := by
  refine cal_fd (k := 19) (N := ["arms", "length", "values", "value", "best"]) (ps := ["arms", "length", "values", "value"]) (g := g_shows_best_map) F hm sc_shows_best_map (fun _ _ _ _ _ _ us hl => match us, hl with | [_, _, _, _], _ => rfl) (fun A outer s H E hr => ?_)
  exact (sd_cons (sd_expr (pd_call c_need_all hr (by decide) (by rfl) (n := 3) (ad_cons (pd_var (i := 0) (by rfl) (by first | exact .inl rfl | exact .inr (.inl rfl) | exact .inr (.inr rfl))) (ad_cons (pd_var (i := 1) (by rfl) (by first | exact .inl rfl | exact .inr (.inl rfl) | exact .inr (.inr rfl))) (ad_cons (pd_var (i := 2) (by rfl) (by first | exact .inl rfl | exact .inr (.inl rfl) | exact .inr (.inr rfl))) ad_nil))))) (sd_cons (sd_set false (i := 4) sc_shows_best_map.nd (by rfl) (by first | exact .inl rfl | exact .inr rfl) (pd_item (pd_call c_best_of_all hr (by decide) (by rfl) (n := 3) (ad_cons (pd_var (i := 0) (by rfl) (by first | exact .inl rfl | exact .inr (.inl rfl) | exact .inr (.inr rfl))) (ad_cons (pd_var (i := 1) (by rfl) (by first | exact .inl rfl | exact .inr (.inl rfl) | exact .inr (.inr rfl))) (ad_cons (pd_var (i := 2) (by rfl) (by first | exact .inl rfl | exact .inr (.inl rfl) | exact .inr (.inr rfl))) ad_nil)))) pd_int) (by first | exact .inl rfl | exact .inr rfl)) (sd_cons (sd_if (PW.pt (wd_or (td_not (td_tru (pd_isi (.inr (.inr (.inl rfl))) M.isinstance M.tuple (by rfl) (pd_var (i := 3) (by rfl) (by first | exact .inl rfl | exact .inr (.inl rfl) | exact .inr (.inr rfl)))))) (wd_or (td_c (c_ne hr) (pd_len M.len (pd_var (i := 3) (by rfl) (by first | exact .inl rfl | exact .inr (.inl rfl) | exact .inr (.inr rfl)))) pd_int) (wd_or (td_not (td_tru (pd_call c_is_in hr (by decide) (by rfl) (n := 3) (ad_cons (pd_item (pd_var (i := 3) (by rfl) (by first | exact .inl rfl | exact .inr (.inl rfl) | exact .inr (.inr rfl))) pd_int) (ad_cons (pd_var (i := 4) (by rfl) (by first | exact .inl rfl | exact .inr (.inl rfl) | exact .inr (.inr rfl))) (ad_cons (pd_var (i := 4) (by rfl) (by first | exact .inl rfl | exact .inr (.inl rfl) | exact .inr (.inr rfl))) ad_nil)))))) (pw_or1 (td_not (td_tru (pd_call c_is_map hr (by decide) (by rfl) (n := 1) (ad_cons (pd_item (pd_var (i := 3) (by rfl) (by first | exact .inl rfl | exact .inr (.inl rfl) | exact .inr (.inr rfl))) pd_int) ad_nil))))))))) (sd_cons (sd_ret pd_bl) sd_nil) sd_nil) (sd_cons (sd_if (PW.pt (wd_or (td_c (c_ne hr) (pd_item (pd_item (pd_var (i := 3) (by rfl) (by first | exact .inl rfl | exact .inr (.inl rfl) | exact .inr (.inr rfl))) pd_int) pd_int) (pd_var (i := 0) (by rfl) (by first | exact .inl rfl | exact .inr (.inl rfl) | exact .inr (.inr rfl)))) (wd_or (td_c (c_ne hr) (pd_call c_length_of hr (by decide) (by rfl) (n := 1) (ad_cons (pd_item (pd_var (i := 3) (by rfl) (by first | exact .inl rfl | exact .inr (.inl rfl) | exact .inr (.inr rfl))) pd_int) ad_nil)) (pd_var (i := 1) (by rfl) (by first | exact .inl rfl | exact .inr (.inl rfl) | exact .inr (.inr rfl)))) (pw_or1 (td_c (c_ne hr) (pd_call c_lands_of hr (by decide) (by rfl) (n := 1) (ad_cons (pd_item (pd_var (i := 3) (by rfl) (by first | exact .inl rfl | exact .inr (.inl rfl) | exact .inr (.inr rfl))) pd_int) ad_nil)) (pd_len M.len (pd_var (i := 2) (by rfl) (by first | exact .inl rfl | exact .inr (.inl rfl) | exact .inr (.inr rfl))))))))) (sd_cons (sd_ret pd_bl) sd_nil) sd_nil) (sd_cons (sd_ret (pd_c (c_eq hr) (pd_call c_worth_of hr (by decide) (by rfl) (n := 2) (ad_cons (pd_item (pd_var (i := 3) (by rfl) (by first | exact .inl rfl | exact .inr (.inl rfl) | exact .inr (.inr rfl))) pd_int) (ad_cons (pd_var (i := 2) (by rfl) (by first | exact .inl rfl | exact .inr (.inl rfl) | exact .inr (.inr rfl))) ad_nil))) (pd_var (i := 4) (by rfl) (by first | exact .inl rfl | exact .inr (.inl rfl) | exact .inr (.inr rfl))))) sd_nil)))))
/-! ### climb -/
def g_climb : DE → Option Out := (sSeq (sExpr (eCall F_need_valued (aCons (eVar 0) (aCons (eVar 1) aNil)))) (sSeq (sSet true 2 (eLstL lNil)) (sSeq (sWhile (eTru (e2 dLt (e1 dLen (eRd 2)) (eC (.int 40)))) (sClr [3, 4, 5] (sSeq (sSet false 3 (eC .none)) (sSeq (sFor (iSeq (eCall F_all_takings (aCons (eVar 0) aNil))) (gtN 4) (sClr [4, 5] (sSeq (sSet false 5 (eCall F_worth_of (aCons (eCall F_taken (aCons (eVar 0) (aCons (eVar 4) aNil))) (aCons (eVar 1) aNil)))) (sSeq (sIf (tOrF (eTru (e2 dIs (eVar 3) (eC .none))) (eTru (e2 dGt (eVar 5) (e2 dIx (eVar 3) (eC (.int 0)))))) (sSeq (sSet false 3 (eTupL (lCons (eVar 5) (lCons (eVar 4) lNil)))) sNil) sNil) sNil)))) (sSeq (sIf (tOrF (eTru (e2 dIs (eVar 3) (eC .none))) (eTru (e2 dLe (e2 dIx (eVar 3) (eC (.int 0))) (eCall F_worth_of (aCons (eVar 0) (aCons (eVar 1) aNil)))))) (sSeq (sRet (e1 dTuple (eRd 2))) sNil) sNil) (sSeq (sApp 2 (e2 dIx (eVar 3) (eC (.int 1)))) (sSeq (sSet false 0 (eCall F_taken (aCons (eVar 0) (aCons (e2 dIx (eVar 3) (eC (.int 1))) aNil)))) sNil)))))) 41) (sSeq (sRet (e1 dTuple (eRd 2))) sNil))))
def F_climb : List DV → Option DV := fnF 6 g_climb
theorem sc_climb : FnScope ["chart", "values", "row", "best", "taking", "there"] ["chart", "values"] (defScope (top 42)) := ⟨by rfl, by rfl, by rfl, by decide +kernel, by rfl, by decide +kernel, by decide +kernel⟩
theorem ok_climb (M : MF mg) (F : FunD K "climb" "climb" (defArgs (top 42)) (defBody (top 42)) (defScope (top 42)) [] [] (He.fAd K ("climb", none)) fd) (hm : mg "climb" = some (.ref (He.fAd K ("climb", none)))) (c_all_takings : C8.Cal P w K mg base 16 "all_takings" (spD ⟨P, w, T⟩ 1 F_all_takings) []) (c_need_valued : C8.Cal P w K mg base 24 "need_valued" (spD ⟨P, w, T⟩ 2 F_need_valued) []) (c_taken : C8.Cal P w K mg base 4 "taken" (spD ⟨P, w, T⟩ 2 F_taken) []) (c_worth_of : C8.Cal P w K mg base 4 "worth_of" (spD ⟨P, w, T⟩ 2 F_worth_of) []) : C8.Cal P w K mg base 28 "climb" (spD ⟨P, w, T⟩ 2 F_climb) [] := by
  obtain ⟨t_mr, hmr⟩ := M.mr
  refine cal_fd (k := 27) (N := ["chart", "values", "row", "best", "taking", "there"]) (ps := ["chart", "values"]) (g := g_climb) F hm sc_climb (fun _ _ _ _ _ _ us hl => match us, hl with | [_, _], _ => rfl) (fun A outer s H E hr => ?_)
  exact (sd_cons (sd_expr (pd_call c_need_valued hr (by decide) (by rfl) (n := 2) (ad_cons (pd_var (i := 0) (by rfl) (by first | exact .inl rfl | exact .inr (.inl rfl) | exact .inr (.inr rfl))) (ad_cons (pd_var (i := 1) (by rfl) (by first | exact .inl rfl | exact .inr (.inl rfl) | exact .inr (.inr rfl))) ad_nil)))) (sd_cons (sd_set true (i := 2) sc_climb.nd (by rfl) (by first | exact .inl rfl | exact .inr rfl) (pd_lstL ld_nil) (by first | exact .inl rfl | exact .inr rfl)) (sd_cons (sd_while 41 PassesOwn.never (td_c (c_lt hr) (pd_len M.len (pd_rdv (i := 2) (by rfl) (by first | exact .inl rfl | exact .inr (.inl rfl) | exact .inr (.inr rfl)))) (pd_globI (by rfl) hmr)) (sd_clr [3, 4, 5] (sd_cons (sd_set false (i := 3) sc_climb.nd (by rfl) (by first | exact .inl rfl | exact .inr rfl) pd_non (by first | exact .inl rfl | exact .inr rfl)) (sd_cons (sd_for PassesOwn.never (by rfl) (id_seq (pd_call c_all_takings hr (by decide) (by rfl) (n := 1) (ad_cons (pd_var (i := 0) (by rfl) (by first | exact .inl rfl | exact .inr (.inl rfl) | exact .inr (.inr rfl))) ad_nil))) (gd_name (i := 4) sc_climb.nd (by rfl) (by first | exact .inl rfl | exact .inr rfl) (by first | exact .inl rfl | exact .inr rfl)) (sd_clr [4, 5] (sd_cons (sd_set false (i := 5) sc_climb.nd (by rfl) (by first | exact .inl rfl | exact .inr rfl) (pd_call c_worth_of hr (by decide) (by rfl) (n := 2) (ad_cons (pd_call c_taken hr (by decide) (by rfl) (n := 2) (ad_cons (pd_var (i := 0) (by rfl) (by first | exact .inl rfl | exact .inr (.inl rfl) | exact .inr (.inr rfl))) (ad_cons (pd_var (i := 4) (by rfl) (by first | exact .inl rfl | exact .inr (.inl rfl) | exact .inr (.inr rfl))) ad_nil))) (ad_cons (pd_var (i := 1) (by rfl) (by first | exact .inl rfl | exact .inr (.inl rfl) | exact .inr (.inr rfl))) ad_nil))) (by first | exact .inl rfl | exact .inr rfl)) (sd_cons (sd_if (PW.pt (wd_or (td_c c_is (pd_var (i := 3) (by rfl) (by first | exact .inl rfl | exact .inr (.inl rfl) | exact .inr (.inr rfl))) pd_non) (pw_or1 (td_c (c_gt hr) (pd_var (i := 5) (by rfl) (by first | exact .inl rfl | exact .inr (.inl rfl) | exact .inr (.inr rfl))) (pd_item (pd_var (i := 3) (by rfl) (by first | exact .inl rfl | exact .inr (.inl rfl) | exact .inr (.inr rfl))) pd_int))))) (sd_cons (sd_set false (i := 3) sc_climb.nd (by rfl) (by first | exact .inl rfl | exact .inr rfl) (pd_tupL (ld_cons (pd_var (i := 5) (by rfl) (by first | exact .inl rfl | exact .inr (.inl rfl) | exact .inr (.inr rfl))) (ld_cons (pd_var (i := 4) (by rfl) (by first | exact .inl rfl | exact .inr (.inl rfl) | exact .inr (.inr rfl))) ld_nil))) (by first | exact .inl rfl | exact .inr rfl)) sd_nil) sd_nil) sd_nil)))) (sd_cons (sd_if (PW.pt (wd_or (td_c c_is (pd_var (i := 3) (by rfl) (by first | exact .inl rfl | exact .inr (.inl rfl) | exact .inr (.inr rfl))) pd_non) (pw_or1 (td_c (c_le hr) (pd_item (pd_var (i := 3) (by rfl) (by first | exact .inl rfl | exact .inr (.inl rfl) | exact .inr (.inr rfl))) pd_int) (pd_call c_worth_of hr (by decide) (by rfl) (n := 2) (ad_cons (pd_var (i := 0) (by rfl) (by first | exact .inl rfl | exact .inr (.inl rfl) | exact .inr (.inr rfl))) (ad_cons (pd_var (i := 1) (by rfl) (by first | exact .inl rfl | exact .inr (.inl rfl) | exact .inr (.inr rfl))) ad_nil))))))) (sd_cons (sd_ret (pd_totuple M.tuple (pd_rdv (i := 2) (by rfl) (by first | exact .inl rfl | exact .inr (.inl rfl) | exact .inr (.inr rfl))))) sd_nil) sd_nil) (sd_cons (sd_app (i := 2) (by rfl) (by first | exact .inl rfl | exact .inr (.inl rfl) | exact .inr (.inr rfl)) (pd_item (pd_var (i := 3) (by rfl) (by first | exact .inl rfl | exact .inr (.inl rfl) | exact .inr (.inr rfl))) pd_int)) (sd_cons (sd_set false (i := 0) sc_climb.nd (by rfl) (by first | exact .inl rfl | exact .inr rfl) (pd_call c_taken hr (by decide) (by rfl) (n := 2) (ad_cons (pd_var (i := 0) (by rfl) (by first | exact .inl rfl | exact .inr (.inl rfl) | exact .inr (.inr rfl))) (ad_cons (pd_item (pd_var (i := 3) (by rfl) (by first | exact .inl rfl | exact .inr (.inl rfl) | exact .inr (.inr rfl))) pd_int) ad_nil))) (by first | exact .inl rfl | exact .inr rfl)) sd_nil))))))) (sd_cons (sd_ret (pd_totuple M.tuple (pd_rdv (i := 2) (by rfl) (by first | exact .inl rfl | exact .inr (.inl rfl) | exact .inr (.inr rfl))))) sd_nil))))
/-! ### _law_near -/
def g__law_near : DE → Option Out := (sSeq (sSet true 3 (eLstL lNil)) (sSeq (sFor (iRange (eVar 0)) (gtN 4) (sClr [4, 5, 6, 7] (sSeq (sFor (iRange (eVar 1)) (gtN 5) (sClr [5, 6, 7] (sSeq (sSet false 6 (e2 dAdd (e2 dAdd (eC (.int 1)) (e2 dMul (eVar 4) (eVar 1))) (eVar 5))) (sSeq (sSet false 7 (eIf (eTru (e2 dEq (eVar 5) (eC (.int 0)))) (eC (.int 0)) (e2 dSub (eVar 6) (eC (.int 1))))) (sSeq (sIf (eTru (e2 dEq (eVar 2) (eVar 7))) (sSeq (sApp 3 (eVar 6)) sNil) sNil) (sSeq (sIf (eTru (e2 dEq (eVar 2) (eVar 6))) (sSeq (sApp 3 (eVar 7)) sNil) sNil) sNil)))))) sNil))) (sSeq (sRet (e1 dSorted (eRd 3))) sNil)))
def F__law_near : List DV → Option DV := fnF 8 g__law_near
theorem sc__law_near : FnScope ["_law_arms", "_law_length", "_law_cell", "_law_found", "_law_arm", "_law_step", "_law_here", "_law_inner"] ["_law_arms", "_law_length", "_law_cell"] (defScope (top 47)) := ⟨by rfl, by rfl, by rfl, by decide +kernel, by rfl, by decide +kernel, by decide +kernel⟩
theorem ok__law_near (M : MF mg) (F : FunD K "_law_near" "_law_near" (defArgs (top 47)) (defBody (top 47)) (defScope (top 47)) [] [] (He.fAd K ("_law_near", none)) fd) (hm : mg "_law_near" = some (.ref (He.fAd K ("_law_near", none)))) : C8.Cal P w K mg base 4 "_law_near" (spD ⟨P, w, T⟩ 3 F__law_near) [] := by
  refine cal_fd (k := 3) (N := ["_law_arms", "_law_length", "_law_cell", "_law_found", "_law_arm", "_law_step", "_law_here", "_law_inner"]) (ps := ["_law_arms", "_law_length", "_law_cell"]) (g := g__law_near) F hm sc__law_near (fun _ _ _ _ _ _ us hl => match us, hl with | [_, _, _], _ => rfl) (fun A outer s H E hr => ?_)
  exact (sd_cons (sd_set true (i := 3) sc__law_near.nd (by rfl) (by first | exact .inl rfl | exact .inr rfl) (pd_lstL ld_nil) (by first | exact .inl rfl | exact .inr rfl)) (sd_cons (sd_for PassesOwn.never (by rfl) (id_range M.range (pd_var (i := 0) (by rfl) (by first | exact .inl rfl | exact .inr (.inl rfl) | exact .inr (.inr rfl)))) (gd_name (i := 4) sc__law_near.nd (by rfl) (by first | exact .inl rfl | exact .inr rfl) (by first | exact .inl rfl | exact .inr rfl)) (sd_clr [4, 5, 6, 7] (sd_cons (sd_for PassesOwn.never (by rfl) (id_range M.range (pd_var (i := 1) (by rfl) (by first | exact .inl rfl | exact .inr (.inl rfl) | exact .inr (.inr rfl)))) (gd_name (i := 5) sc__law_near.nd (by rfl) (by first | exact .inl rfl | exact .inr rfl) (by first | exact .inl rfl | exact .inr rfl)) (sd_clr [5, 6, 7] (sd_cons (sd_set false (i := 6) sc__law_near.nd (by rfl) (by first | exact .inl rfl | exact .inr rfl) (pd_add (pd_add pd_int (pd_mul (pd_var (i := 4) (by rfl) (by first | exact .inl rfl | exact .inr (.inl rfl) | exact .inr (.inr rfl))) (pd_var (i := 1) (by rfl) (by first | exact .inl rfl | exact .inr (.inl rfl) | exact .inr (.inr rfl))))) (pd_var (i := 5) (by rfl) (by first | exact .inl rfl | exact .inr (.inl rfl) | exact .inr (.inr rfl)))) (by first | exact .inl rfl | exact .inr rfl)) (sd_cons (sd_set false (i := 7) sc__law_near.nd (by rfl) (by first | exact .inl rfl | exact .inr rfl) (pd_if (td_c (c_eq hr) (pd_var (i := 5) (by rfl) (by first | exact .inl rfl | exact .inr (.inl rfl) | exact .inr (.inr rfl))) pd_int) pd_int (pd_sub (pd_var (i := 6) (by rfl) (by first | exact .inl rfl | exact .inr (.inl rfl) | exact .inr (.inr rfl))) pd_int)) (by first | exact .inl rfl | exact .inr rfl)) (sd_cons (sd_if (td_c (c_eq hr) (pd_var (i := 2) (by rfl) (by first | exact .inl rfl | exact .inr (.inl rfl) | exact .inr (.inr rfl))) (pd_var (i := 7) (by rfl) (by first | exact .inl rfl | exact .inr (.inl rfl) | exact .inr (.inr rfl)))) (sd_cons (sd_app (i := 3) (by rfl) (by first | exact .inl rfl | exact .inr (.inl rfl) | exact .inr (.inr rfl)) (pd_var (i := 6) (by rfl) (by first | exact .inl rfl | exact .inr (.inl rfl) | exact .inr (.inr rfl)))) sd_nil) sd_nil) (sd_cons (sd_if (td_c (c_eq hr) (pd_var (i := 2) (by rfl) (by first | exact .inl rfl | exact .inr (.inl rfl) | exact .inr (.inr rfl))) (pd_var (i := 6) (by rfl) (by first | exact .inl rfl | exact .inr (.inl rfl) | exact .inr (.inr rfl)))) (sd_cons (sd_app (i := 3) (by rfl) (by first | exact .inl rfl | exact .inr (.inl rfl) | exact .inr (.inr rfl)) (pd_var (i := 7) (by rfl) (by first | exact .inl rfl | exact .inr (.inl rfl) | exact .inr (.inr rfl)))) sd_nil) sd_nil) sd_nil)))))) sd_nil))) (sd_cons (sd_ret (pd_frz (pd_sorted hr M.sorted (pd_rdv (i := 3) (by rfl) (by first | exact .inl rfl | exact .inr (.inl rfl) | exact .inr (.inr rfl)))))) sd_nil)))
/-! ### _law_hangs -/
def g__law_hangs : DE → Option Out := (sSeq (sTup [3, 4] (eTupL (lCons (eSl (eVar 2) pN (pS (eC (.int 1)))) (lCons (eSl (eVar 2) pN (pS (eC (.int 1)))) lNil)))) (sSeq (sWhile (eTru (e2 dNe (eVar 4) (eLstL lNil))) (sClr [5, 6] (sSeq (sSet false 5 (eLstL lNil)) (sSeq (sFor (iSeq (eVar 4)) (gtN 6) (sClr [6] (sSeq (sSet false 5 (e2 dAdd (eVar 5) (eLc [7] (iSeq (eCall F__law_near (aCons (eVar 0) (aCons (eVar 1) (aCons (eVar 6) aNil))))) (gtN 7) (tAndF (eTru (e2 (dIn false) (eVar 7) (eVar 2))) (tAndF (eTru (e2 (dIn true) (eVar 7) (eVar 3))) (eTru (e2 (dIn true) (eVar 7) (eVar 5))))) (eVar 7)))) sNil))) (sSeq (sTup [3, 4] (eTupL (lCons (e2 dAdd (eVar 3) (eVar 5)) (lCons (eVar 5) lNil)))) sNil)))) 200) (sSeq (sRet (eAnd (e2 dNe (eVar 2) (eLstL lNil)) (e2 dEq (e1 dLen (eVar 3)) (e1 dLen (eVar 2))))) sNil)))
def F__law_hangs : List DV → Option DV := fnF 8 g__law_hangs
theorem sc__law_hangs : FnScope ["_law_arms", "_law_length", "_law_some", "_law_seen", "_law_walk_here", "_law_more", "_law_cell", "_law_one"] ["_law_arms", "_law_length", "_law_some"] (defScope (top 48)) := ⟨by rfl, by rfl, by rfl, by decide +kernel, by rfl, by decide +kernel, by decide +kernel⟩
theorem ok__law_hangs (M : MF mg) (F : FunD K "_law_hangs" "_law_hangs" (defArgs (top 48)) (defBody (top 48)) (defScope (top 48)) [] [] (He.fAd K ("_law_hangs", none)) fd) (hm : mg "_law_hangs" = some (.ref (He.fAd K ("_law_hangs", none)))) (c__law_near : C8.Cal P w K mg base 4 "_law_near" (spD ⟨P, w, T⟩ 3 F__law_near) []) : C8.Cal P w K mg base 8 "_law_hangs" (spD ⟨P, w, T⟩ 3 F__law_hangs) [] := by
  refine cal_fd (k := 7) (N := ["_law_arms", "_law_length", "_law_some", "_law_seen", "_law_walk_here", "_law_more", "_law_cell", "_law_one"]) (ps := ["_law_arms", "_law_length", "_law_some"]) (g := g__law_hangs) F hm sc__law_hangs (fun _ _ _ _ _ _ us hl => match us, hl with | [_, _, _], _ => rfl) (fun A outer s H E hr => ?_)
  exact (sd_cons (sd_tup (by rfl) (pd_tupL (ld_cons (pd_slice (pd_var (i := 2) (by rfl) (by first | exact .inl rfl | exact .inr (.inl rfl) | exact .inr (.inr rfl))) od_none (od_some pd_int)) (ld_cons (pd_slice (pd_var (i := 2) (by rfl) (by first | exact .inl rfl | exact .inr (.inl rfl) | exact .inr (.inr rfl))) od_none (od_some pd_int)) ld_nil))) (gds_cons (i := 3) sc__law_hangs.nd (by rfl) (by first | exact .inl rfl | exact .inr rfl) (by first | exact .inl rfl | exact .inr rfl) (gds_cons (i := 4) sc__law_hangs.nd (by rfl) (by first | exact .inl rfl | exact .inr rfl) (by first | exact .inl rfl | exact .inr rfl) gds_nil))) (sd_cons (sd_while 200 PassesOwn.never (td_c (c_ne hr) (pd_var (i := 4) (by rfl) (by first | exact .inl rfl | exact .inr (.inl rfl) | exact .inr (.inr rfl))) (pd_frz (pd_lstL ld_nil))) (sd_clr [5, 6] (sd_cons (sd_set false (i := 5) sc__law_hangs.nd (by rfl) (by first | exact .inl rfl | exact .inr rfl) (pd_frz (pd_lstL ld_nil)) (by first | exact .inl rfl | exact .inr rfl)) (sd_cons (sd_for PassesOwn.never (by rfl) (id_seq (pd_var (i := 4) (by rfl) (by first | exact .inl rfl | exact .inr (.inl rfl) | exact .inr (.inr rfl)))) (gd_name (i := 6) sc__law_hangs.nd (by rfl) (by first | exact .inl rfl | exact .inr rfl) (by first | exact .inl rfl | exact .inr rfl)) (sd_clr [6] (sd_cons (sd_set false (i := 5) sc__law_hangs.nd (by rfl) (by first | exact .inl rfl | exact .inr rfl) (pd_add (pd_var (i := 5) (by rfl) (by first | exact .inl rfl | exact .inr (.inl rfl) | exact .inr (.inr rfl))) (pd_frz (pd_lc (by rfl) sc__law_hangs.nd (id_seq (pd_call c__law_near hr (by decide) (by rfl) (n := 3) (ad_cons (pd_var (i := 0) (by rfl) (by first | exact .inl rfl | exact .inr (.inl rfl) | exact .inr (.inr rfl))) (ad_cons (pd_var (i := 1) (by rfl) (by first | exact .inl rfl | exact .inr (.inl rfl) | exact .inr (.inr rfl))) (ad_cons (pd_var (i := 6) (by rfl) (by first | exact .inl rfl | exact .inr (.inl rfl) | exact .inr (.inr rfl))) ad_nil))))) (own := [(("_law_one" : PySem.Str), 7)]) (blk_of (N := ["_law_arms", "_law_length", "_law_some", "_law_seen", "_law_walk_here", "_law_more", "_law_cell", "_law_one"]) (sc := defScope (top 48)) (by decide +kernel)) (by decide) (fun _ _ _ _ _ => (gd_name (i := 7) sc__law_hangs.nd (by rfl) (by first | exact .inl rfl | exact .inr rfl) (by first | exact .inl rfl | exact .inr rfl))) (fun _ _ _ _ _ => tds_one (PW.pt (wd_and (td_c (c_in hr) (pd_var (i := 7) (by rfl) (by first | exact .inl rfl | exact .inr (.inl rfl) | exact .inr (.inr rfl))) (pd_var (i := 2) (by rfl) (by first | exact .inl rfl | exact .inr (.inl rfl) | exact .inr (.inr rfl)))) (wd_and (td_c (c_nin hr) (pd_var (i := 7) (by rfl) (by first | exact .inl rfl | exact .inr (.inl rfl) | exact .inr (.inr rfl))) (pd_var (i := 3) (by rfl) (by first | exact .inl rfl | exact .inr (.inl rfl) | exact .inr (.inr rfl)))) (pw_and1 (td_c (c_nin hr) (pd_var (i := 7) (by rfl) (by first | exact .inl rfl | exact .inr (.inl rfl) | exact .inr (.inr rfl))) (pd_var (i := 5) (by rfl) (by first | exact .inl rfl | exact .inr (.inl rfl) | exact .inr (.inr rfl))))))))) (fun _ _ _ _ _ => (pd_var (i := 7) (by rfl) (by first | exact .inl rfl | exact .inr (.inl rfl) | exact .inr (.inr rfl))))))) (by first | exact .inl rfl | exact .inr rfl)) sd_nil))) (sd_cons (sd_tup (by rfl) (pd_tupL (ld_cons (pd_add (pd_var (i := 3) (by rfl) (by first | exact .inl rfl | exact .inr (.inl rfl) | exact .inr (.inr rfl))) (pd_var (i := 5) (by rfl) (by first | exact .inl rfl | exact .inr (.inl rfl) | exact .inr (.inr rfl)))) (ld_cons (pd_var (i := 5) (by rfl) (by first | exact .inl rfl | exact .inr (.inl rfl) | exact .inr (.inr rfl))) ld_nil))) (gds_cons (i := 3) sc__law_hangs.nd (by rfl) (by first | exact .inl rfl | exact .inr rfl) (by first | exact .inl rfl | exact .inr rfl) (gds_cons (i := 4) sc__law_hangs.nd (by rfl) (by first | exact .inl rfl | exact .inr rfl) (by first | exact .inl rfl | exact .inr rfl) gds_nil))) sd_nil))))) (sd_cons (sd_ret (pd_and (pd_c (c_ne hr) (pd_var (i := 2) (by rfl) (by first | exact .inl rfl | exact .inr (.inl rfl) | exact .inr (.inr rfl))) (pd_frz (pd_lstL ld_nil))) (pd_one (pd_c (c_eq hr) (pd_len M.len (pd_var (i := 3) (by rfl) (by first | exact .inl rfl | exact .inr (.inl rfl) | exact .inr (.inr rfl)))) (pd_len M.len (pd_var (i := 2) (by rfl) (by first | exact .inl rfl | exact .inr (.inl rfl) | exact .inr (.inr rfl)))))))) sd_nil)))
/-! ### _law_takings -/
def g__law_takings : DE → Option Out := (sSeq (sTup [2, 3] (eVar 0)) (sSeq (sPar false 4 true 5 (aCons (e2 dFdiv (e2 dSub (e1 dLen (eVar 3)) (eC (.int 1))) (eVar 2)) (aCons (eLstL lNil) aNil))) (sSeq (sFor (iRange (e2 dAdd (e1 dMax (eVar 3)) (eC (.int 1)))) (gtN 1) (sClr [1, 6, 7, 8] (sSeq (sFor (iRange (e1 dLen (eVar 3))) (gtN 6) (sClr [6, 7, 8] (sSeq (sSet false 7 (e2 dIx (eVar 3) (eVar 6))) (sSeq (sIf (tAndF (eTru (e2 dNe (eVar 7) (eVar 1))) (eTru (e2 dNe (eLc [9] (iSeq (eCall F__law_near (aCons (eVar 2) (aCons (eVar 4) (aCons (eVar 6) aNil))))) (gtN 9) (eTru (e2 dEq (e2 dIx (eVar 3) (eVar 9)) (eVar 1))) (eVar 9)) (eLstL lNil)))) (sSeq (sSet false 8 (eLc [9] (iRange (e1 dLen (eVar 3))) (gtN 9) (tAndF (eTru (e2 dEq (e2 dIx (eVar 3) (eVar 9)) (eVar 7))) (eTru (e2 dNe (eVar 9) (eVar 6)))) (eVar 9))) (sSeq (sIf (tAndF (eTru (e2 dNe (eVar 8) (eLstL lNil))) (eTru (eCall F__law_hangs (aCons (eVar 2) (aCons (eVar 4) (aCons (eVar 8) aNil)))))) (sSeq (sApp 5 (eTupL (lCons (eVar 1) (lCons (eVar 6) lNil)))) sNil) sNil) sNil)) sNil) sNil)))) sNil))) (sSeq (sRetO 5) sNil))))
def F__law_takings : List DV → Option DV := fnF 10 g__law_takings
theorem sc__law_takings : FnScope ["_law_chart", "_law_land", "_law_arms", "_law_cells", "_law_length", "_law_found", "_law_cell", "_law_other", "_law_rest", "_law_one"] ["_law_chart"] (defScope (top 50)) := ⟨by rfl, by rfl, by rfl, by decide +kernel, by rfl, by decide +kernel, by decide +kernel⟩
theorem ok__law_takings (M : MF mg) (F : FunD K "_law_takings" "_law_takings" (defArgs (top 50)) (defBody (top 50)) (defScope (top 50)) [] [] (He.fAd K ("_law_takings", none)) fd) (hm : mg "_law_takings" = some (.ref (He.fAd K ("_law_takings", none)))) (c__law_hangs : C8.Cal P w K mg base 8 "_law_hangs" (spD ⟨P, w, T⟩ 3 F__law_hangs) []) (c__law_near : C8.Cal P w K mg base 4 "_law_near" (spD ⟨P, w, T⟩ 3 F__law_near) []) : C8.Cal P w K mg base 12 "_law_takings" (spD ⟨P, w, T⟩ 1 F__law_takings) [] := by
  refine cal_fd (k := 11) (N := ["_law_chart", "_law_land", "_law_arms", "_law_cells", "_law_length", "_law_found", "_law_cell", "_law_other", "_law_rest", "_law_one"]) (ps := ["_law_chart"]) (g := g__law_takings) F hm sc__law_takings (fun _ _ _ _ _ _ us hl => match us, hl with | [_], _ => rfl) (fun A outer s H E hr => ?_)
  exact (sd_cons (sd_tup (by rfl) (pd_var (i := 0) (by rfl) (by first | exact .inl rfl | exact .inr (.inl rfl) | exact .inr (.inr rfl))) (gds_cons (i := 2) sc__law_takings.nd (by rfl) (by first | exact .inl rfl | exact .inr rfl) (by first | exact .inl rfl | exact .inr rfl) (gds_cons (i := 3) sc__law_takings.nd (by rfl) (by first | exact .inl rfl | exact .inr rfl) (by first | exact .inl rfl | exact .inr rfl) gds_nil))) (sd_cons (sd_par false true (i := 4) (j := 5) (by rfl) (by rfl) sc__law_takings.nd (by rfl) (by rfl) (by decide) (by rfl) (by rfl) (ad_cons (pd_fdiv (pd_sub (pd_len M.len (pd_var (i := 3) (by rfl) (by first | exact .inl rfl | exact .inr (.inl rfl) | exact .inr (.inr rfl)))) pd_int) (pd_var (i := 2) (by rfl) (by first | exact .inl rfl | exact .inr (.inl rfl) | exact .inr (.inr rfl)))) (ad_cons (pd_lstL ld_nil) ad_nil)) (by rfl)) (sd_cons (sd_for PassesOwn.never (by rfl) (id_range M.range (pd_add (pd_max hr M.max (pd_var (i := 3) (by rfl) (by first | exact .inl rfl | exact .inr (.inl rfl) | exact .inr (.inr rfl)))) pd_int)) (gd_name (i := 1) sc__law_takings.nd (by rfl) (by first | exact .inl rfl | exact .inr rfl) (by first | exact .inl rfl | exact .inr rfl)) (sd_clr [1, 6, 7, 8] (sd_cons (sd_for PassesOwn.never (by rfl) (id_range M.range (pd_len M.len (pd_var (i := 3) (by rfl) (by first | exact .inl rfl | exact .inr (.inl rfl) | exact .inr (.inr rfl))))) (gd_name (i := 6) sc__law_takings.nd (by rfl) (by first | exact .inl rfl | exact .inr rfl) (by first | exact .inl rfl | exact .inr rfl)) (sd_clr [6, 7, 8] (sd_cons (sd_set false (i := 7) sc__law_takings.nd (by rfl) (by first | exact .inl rfl | exact .inr rfl) (pd_item (pd_var (i := 3) (by rfl) (by first | exact .inl rfl | exact .inr (.inl rfl) | exact .inr (.inr rfl))) (pd_var (i := 6) (by rfl) (by first | exact .inl rfl | exact .inr (.inl rfl) | exact .inr (.inr rfl)))) (by first | exact .inl rfl | exact .inr rfl)) (sd_cons (sd_if (PW.pt (wd_and (td_c (c_ne hr) (pd_var (i := 7) (by rfl) (by first | exact .inl rfl | exact .inr (.inl rfl) | exact .inr (.inr rfl))) (pd_var (i := 1) (by rfl) (by first | exact .inl rfl | exact .inr (.inl rfl) | exact .inr (.inr rfl)))) (pw_and1 (td_c (c_ne hr) (pd_frz (pd_lc (by rfl) sc__law_takings.nd (id_seq (pd_call c__law_near hr (by decide) (by rfl) (n := 3) (ad_cons (pd_var (i := 2) (by rfl) (by first | exact .inl rfl | exact .inr (.inl rfl) | exact .inr (.inr rfl))) (ad_cons (pd_var (i := 4) (by rfl) (by first | exact .inl rfl | exact .inr (.inl rfl) | exact .inr (.inr rfl))) (ad_cons (pd_var (i := 6) (by rfl) (by first | exact .inl rfl | exact .inr (.inl rfl) | exact .inr (.inr rfl))) ad_nil))))) (own := [(("_law_one" : PySem.Str), 9)]) (blk_of (N := ["_law_chart", "_law_land", "_law_arms", "_law_cells", "_law_length", "_law_found", "_law_cell", "_law_other", "_law_rest", "_law_one"]) (sc := defScope (top 50)) (by decide +kernel)) (by decide) (fun _ _ _ _ _ => (gd_name (i := 9) sc__law_takings.nd (by rfl) (by first | exact .inl rfl | exact .inr rfl) (by first | exact .inl rfl | exact .inr rfl))) (fun _ _ _ _ _ => tds_one (td_c (c_eq hr) (pd_item (pd_var (i := 3) (by rfl) (by first | exact .inl rfl | exact .inr (.inl rfl) | exact .inr (.inr rfl))) (pd_var (i := 9) (by rfl) (by first | exact .inl rfl | exact .inr (.inl rfl) | exact .inr (.inr rfl)))) (pd_var (i := 1) (by rfl) (by first | exact .inl rfl | exact .inr (.inl rfl) | exact .inr (.inr rfl))))) (fun _ _ _ _ _ => (pd_var (i := 9) (by rfl) (by first | exact .inl rfl | exact .inr (.inl rfl) | exact .inr (.inr rfl)))))) (pd_frz (pd_lstL ld_nil)))))) (sd_cons (sd_setLc false (i := 8) (by rfl) sc__law_takings.nd (by rfl) (by rfl) (by rfl) (id_range M.range (pd_len M.len (pd_var (i := 3) (by rfl) (by first | exact .inl rfl | exact .inr (.inl rfl) | exact .inr (.inr rfl))))) (own := [(("_law_one" : PySem.Str), 9)]) (blk_of (N := ["_law_chart", "_law_land", "_law_arms", "_law_cells", "_law_length", "_law_found", "_law_cell", "_law_other", "_law_rest", "_law_one"]) (sc := defScope (top 50)) (by decide +kernel)) (by decide) (fun _ _ _ _ _ => (gd_name (i := 9) sc__law_takings.nd (by rfl) (by first | exact .inl rfl | exact .inr rfl) (by first | exact .inl rfl | exact .inr rfl))) (fun _ _ _ _ _ => tds_one (PW.pt (wd_and (td_c (c_eq hr) (pd_item (pd_var (i := 3) (by rfl) (by first | exact .inl rfl | exact .inr (.inl rfl) | exact .inr (.inr rfl))) (pd_var (i := 9) (by rfl) (by first | exact .inl rfl | exact .inr (.inl rfl) | exact .inr (.inr rfl)))) (pd_var (i := 7) (by rfl) (by first | exact .inl rfl | exact .inr (.inl rfl) | exact .inr (.inr rfl)))) (pw_and1 (td_c (c_ne hr) (pd_var (i := 9) (by rfl) (by first | exact .inl rfl | exact .inr (.inl rfl) | exact .inr (.inr rfl))) (pd_var (i := 6) (by rfl) (by first | exact .inl rfl | exact .inr (.inl rfl) | exact .inr (.inr rfl)))))))) (fun _ _ _ _ _ => (pd_var (i := 9) (by rfl) (by first | exact .inl rfl | exact .inr (.inl rfl) | exact .inr (.inr rfl))))) (sd_cons (sd_if (PW.pt (wd_and (td_c (c_ne hr) (pd_var (i := 8) (by rfl) (by first | exact .inl rfl | exact .inr (.inl rfl) | exact .inr (.inr rfl))) (pd_frz (pd_lstL ld_nil))) (pw_and1 (td_tru (pd_call c__law_hangs hr (by decide) (by rfl) (n := 3) (ad_cons (pd_var (i := 2) (by rfl) (by first | exact .inl rfl | exact .inr (.inl rfl) | exact .inr (.inr rfl))) (ad_cons (pd_var (i := 4) (by rfl) (by first | exact .inl rfl | exact .inr (.inl rfl) | exact .inr (.inr rfl))) (ad_cons (pd_var (i := 8) (by rfl) (by first | exact .inl rfl | exact .inr (.inl rfl) | exact .inr (.inr rfl))) ad_nil)))))))) (sd_cons (sd_app (i := 5) (by rfl) (by first | exact .inl rfl | exact .inr (.inl rfl) | exact .inr (.inr rfl)) (pd_tupL (ld_cons (pd_var (i := 1) (by rfl) (by first | exact .inl rfl | exact .inr (.inl rfl) | exact .inr (.inr rfl))) (ld_cons (pd_var (i := 6) (by rfl) (by first | exact .inl rfl | exact .inr (.inl rfl) | exact .inr (.inr rfl))) ld_nil)))) sd_nil) sd_nil) sd_nil)) sd_nil) sd_nil)))) sd_nil))) (sd_cons (sd_retO (j := 5) (by rfl) (by first | exact .inl rfl | exact .inr (.inl rfl) | exact .inr (.inr rfl))) sd_nil))))
/-! ### _law_behind -/
def g__law_behind : DE → Option Out := (sSeq (sTup [2, 3] (eVar 1)) (sSeq (sRet (eTupL (lCons (e2 dIx (eVar 0) (eC (.int 0))) (lCons (e2 dAdd (e2 dAdd (eSl (e2 dIx (eVar 0) (eC (.int 1))) pN (pS (eVar 3))) (eTupL (lCons (eVar 2) lNil))) (eSl (e2 dIx (eVar 0) (eC (.int 1))) (pS (e2 dAdd (eVar 3) (eC (.int 1)))) pN)) lNil)))) sNil))
def F__law_behind : List DV → Option DV := fnF 4 g__law_behind
theorem sc__law_behind : FnScope ["_law_chart", "_law_taking", "_law_land", "_law_cell"] ["_law_chart", "_law_taking"] (defScope (top 51)) := ⟨by rfl, by rfl, by rfl, by decide +kernel, by rfl, by decide +kernel, by decide +kernel⟩
theorem ok__law_behind (M : MF mg) (F : FunD K "_law_behind" "_law_behind" (defArgs (top 51)) (defBody (top 51)) (defScope (top 51)) [] [] (He.fAd K ("_law_behind", none)) fd) (hm : mg "_law_behind" = some (.ref (He.fAd K ("_law_behind", none)))) : C8.Cal P w K mg base 4 "_law_behind" (spD ⟨P, w, T⟩ 2 F__law_behind) [] := by
  refine cal_fd (k := 3) (N := ["_law_chart", "_law_taking", "_law_land", "_law_cell"]) (ps := ["_law_chart", "_law_taking"]) (g := g__law_behind) F hm sc__law_behind (fun _ _ _ _ _ _ us hl => match us, hl with | [_, _], _ => rfl) (fun A outer s H E hr => ?_)
  exact (sd_cons (sd_tup (by rfl) (pd_var (i := 1) (by rfl) (by first | exact .inl rfl | exact .inr (.inl rfl) | exact .inr (.inr rfl))) (gds_cons (i := 2) sc__law_behind.nd (by rfl) (by first | exact .inl rfl | exact .inr rfl) (by first | exact .inl rfl | exact .inr rfl) (gds_cons (i := 3) sc__law_behind.nd (by rfl) (by first | exact .inl rfl | exact .inr rfl) (by first | exact .inl rfl | exact .inr rfl) gds_nil))) (sd_cons (sd_ret (pd_tupL (ld_cons (pd_item (pd_var (i := 0) (by rfl) (by first | exact .inl rfl | exact .inr (.inl rfl) | exact .inr (.inr rfl))) pd_int) (ld_cons (pd_add (pd_add (pd_slice (pd_item (pd_var (i := 0) (by rfl) (by first | exact .inl rfl | exact .inr (.inl rfl) | exact .inr (.inr rfl))) pd_int) od_none (od_some (pd_var (i := 3) (by rfl) (by first | exact .inl rfl | exact .inr (.inl rfl) | exact .inr (.inr rfl))))) (pd_tupL (ld_cons (pd_var (i := 2) (by rfl) (by first | exact .inl rfl | exact .inr (.inl rfl) | exact .inr (.inr rfl))) ld_nil))) (pd_slice (pd_item (pd_var (i := 0) (by rfl) (by first | exact .inl rfl | exact .inr (.inl rfl) | exact .inr (.inr rfl))) pd_int) (od_some (pd_add (pd_var (i := 3) (by rfl) (by first | exact .inl rfl | exact .inr (.inl rfl) | exact .inr (.inr rfl))) pd_int)) od_none)) ld_nil)))) sd_nil))
/-! ### _law_from -/
def g__law_from : DE → Option Out := (sSeq (sPar true 1 false 2 (aCons (eDct1 (eVar 0) (eC (.int 0))) (aCons (eLstL (lCons (eVar 0) lNil)) aNil))) (sSeq (sWhile (eTru (e2 dNe (eVar 2) (eLstL lNil))) (sClr [3, 4, 5, 6] (sSeq (sSet true 3 (eLstL lNil)) (sSeq (sFor (iSeq (eVar 2)) (gtN 4) (sClr [4, 5, 6] (sSeq (sFor (iSeq (eCall F__law_takings (aCons (eVar 4) aNil))) (gtN 5) (sClr [5, 6] (sSeq (sSet false 6 (eCall F__law_behind (aCons (eVar 4) (aCons (eVar 5) aNil)))) (sSeq (sIf (eTru (e2 (dIn true) (eVar 6) (eRd 1))) (sSeq (sPut 1 (e2 dAdd (e2 dGet (eRd 1) (eVar 4)) (eC (.int 1))) (eVar 6)) (sSeq (sApp 3 (eVar 6)) sNil)) sNil) sNil)))) sNil))) (sSeq (sFrz 2 3) sNil)))) 2000) (sSeq (sRetO 1) sNil)))
def F__law_from : List DV → Option DV := fnF 7 g__law_from
theorem sc__law_from : FnScope ["_law_chart", "_law_found", "_law_walk_here", "_law_more", "_law_here", "_law_taking", "_law_there"] ["_law_chart"] (defScope (top 52)) := ⟨by rfl, by rfl, by rfl, by decide +kernel, by rfl, by decide +kernel, by decide +kernel⟩
theorem ok__law_from (M : MF mg) (F : FunD K "_law_from" "_law_from" (defArgs (top 52)) (defBody (top 52)) (defScope (top 52)) [] [] (He.fAd K ("_law_from", none)) fd) (hm : mg "_law_from" = some (.ref (He.fAd K ("_law_from", none)))) (c__law_behind : C8.Cal P w K mg base 4 "_law_behind" (spD ⟨P, w, T⟩ 2 F__law_behind) []) (c__law_takings : C8.Cal P w K mg base 12 "_law_takings" (spD ⟨P, w, T⟩ 1 F__law_takings) []) : C8.Cal P w K mg base 16 "_law_from" (spD ⟨P, w, T⟩ 1 F__law_from) [] := by
  refine cal_fd (k := 15) (N := ["_law_chart", "_law_found", "_law_walk_here", "_law_more", "_law_here", "_law_taking", "_law_there"]) (ps := ["_law_chart"]) (g := g__law_from) F hm sc__law_from (fun _ _ _ _ _ _ us hl => match us, hl with | [_], _ => rfl) (fun A outer s H E hr => ?_)
  exact (sd_cons (sd_par true false (i := 1) (j := 2) (by rfl) (by rfl) sc__law_from.nd (by rfl) (by rfl) (by decide) (by rfl) (by rfl) (ad_cons (pd_dct1 hr (pd_var (i := 0) (by rfl) (by first | exact .inl rfl | exact .inr (.inl rfl) | exact .inr (.inr rfl))) pd_int) (ad_cons (pd_frz (pd_lstL (ld_cons (pd_var (i := 0) (by rfl) (by first | exact .inl rfl | exact .inr (.inl rfl) | exact .inr (.inr rfl))) ld_nil))) ad_nil)) (by rfl)) (sd_cons (sd_while 2000 PassesOwn.never (td_c (c_ne hr) (pd_var (i := 2) (by rfl) (by first | exact .inl rfl | exact .inr (.inl rfl) | exact .inr (.inr rfl))) (pd_frz (pd_lstL ld_nil))) (sd_clr [3, 4, 5, 6] (sd_cons (sd_set true (i := 3) sc__law_from.nd (by rfl) (by first | exact .inl rfl | exact .inr rfl) (pd_lstL ld_nil) (by first | exact .inl rfl | exact .inr rfl)) (sd_cons (sd_for PassesOwn.never (by rfl) (id_seq (pd_var (i := 2) (by rfl) (by first | exact .inl rfl | exact .inr (.inl rfl) | exact .inr (.inr rfl)))) (gd_name (i := 4) sc__law_from.nd (by rfl) (by first | exact .inl rfl | exact .inr rfl) (by first | exact .inl rfl | exact .inr rfl)) (sd_clr [4, 5, 6] (sd_cons (sd_for PassesOwn.never (by rfl) (id_seq (pd_call c__law_takings hr (by decide) (by rfl) (n := 1) (ad_cons (pd_var (i := 4) (by rfl) (by first | exact .inl rfl | exact .inr (.inl rfl) | exact .inr (.inr rfl))) ad_nil))) (gd_name (i := 5) sc__law_from.nd (by rfl) (by first | exact .inl rfl | exact .inr rfl) (by first | exact .inl rfl | exact .inr rfl)) (sd_clr [5, 6] (sd_cons (sd_set false (i := 6) sc__law_from.nd (by rfl) (by first | exact .inl rfl | exact .inr rfl) (pd_call c__law_behind hr (by decide) (by rfl) (n := 2) (ad_cons (pd_var (i := 4) (by rfl) (by first | exact .inl rfl | exact .inr (.inl rfl) | exact .inr (.inr rfl))) (ad_cons (pd_var (i := 5) (by rfl) (by first | exact .inl rfl | exact .inr (.inl rfl) | exact .inr (.inr rfl))) ad_nil))) (by first | exact .inl rfl | exact .inr rfl)) (sd_cons (sd_if (td_c (c_nin hr) (pd_var (i := 6) (by rfl) (by first | exact .inl rfl | exact .inr (.inl rfl) | exact .inr (.inr rfl))) (pd_rdv (i := 1) (by rfl) (by first | exact .inl rfl | exact .inr (.inl rfl) | exact .inr (.inr rfl)))) (sd_cons (sd_put hr (i := 1) (by rfl) (by first | exact .inl rfl | exact .inr (.inl rfl) | exact .inr (.inr rfl)) (pd_add (pd_dget hr (pd_rdv (i := 1) (by rfl) (by first | exact .inl rfl | exact .inr (.inl rfl) | exact .inr (.inr rfl))) (pd_var (i := 4) (by rfl) (by first | exact .inl rfl | exact .inr (.inl rfl) | exact .inr (.inr rfl)))) pd_int) (pd_var (i := 6) (by rfl) (by first | exact .inl rfl | exact .inr (.inl rfl) | exact .inr (.inr rfl)))) (sd_cons (sd_app (i := 3) (by rfl) (by first | exact .inl rfl | exact .inr (.inl rfl) | exact .inr (.inr rfl)) (pd_var (i := 6) (by rfl) (by first | exact .inl rfl | exact .inr (.inl rfl) | exact .inr (.inr rfl)))) sd_nil)) sd_nil) sd_nil)))) sd_nil))) (sd_cons (sd_frz (i := 2) (j := 3) sc__law_from.nd (by rfl) (by first | exact .inl rfl | exact .inr rfl) (by rfl) (by first | exact .inl rfl | exact .inr (.inl rfl) | exact .inr (.inr rfl)) (by first | exact .inl rfl | exact .inr rfl)) sd_nil))))) (sd_cons (sd_retO (j := 1) (by rfl) (by first | exact .inl rfl | exact .inr (.inl rfl) | exact .inr (.inr rfl))) sd_nil)))
/-! ### _law_worth -/
def g__law_worth : DE → Option Out := (sSeq (sRet (e1 dSum (eLc [2] (iRange (e1 dLen (e2 dIx (eVar 0) (eC (.int 1))))) (gtN 2) tYesF (e2 dIx (e2 dIx (eVar 1) (e2 dIx (e2 dIx (eVar 0) (eC (.int 1))) (eVar 2))) (eVar 2))))) sNil)
def F__law_worth : List DV → Option DV := fnF 3 g__law_worth
theorem sc__law_worth : FnScope ["_law_chart", "_law_values", "_law_k"] ["_law_chart", "_law_values"] (defScope (top 56)) := ⟨by rfl, by rfl, by rfl, by decide +kernel, by rfl, by decide +kernel, by decide +kernel⟩
theorem ok__law_worth (M : MF mg) (F : FunD K "_law_worth" "_law_worth" (defArgs (top 56)) (defBody (top 56)) (defScope (top 56)) [] [] (He.fAd K ("_law_worth", none)) fd) (hm : mg "_law_worth" = some (.ref (He.fAd K ("_law_worth", none)))) : C8.Cal P w K mg base 4 "_law_worth" (spD ⟨P, w, T⟩ 2 F__law_worth) [] := by
  refine cal_fd (k := 3) (N := ["_law_chart", "_law_values", "_law_k"]) (ps := ["_law_chart", "_law_values"]) (g := g__law_worth) F hm sc__law_worth (fun _ _ _ _ _ _ us hl => match us, hl with | [_, _], _ => rfl) (fun A outer s H E hr => ?_)
  exact (sd_cons (sd_ret (pd_sum (by rfl) M.sum (pd_frz (pd_lc (by rfl) sc__law_worth.nd (id_range M.range (pd_len M.len (pd_item (pd_var (i := 0) (by rfl) (by first | exact .inl rfl | exact .inr (.inl rfl) | exact .inr (.inr rfl))) pd_int))) (own := [(("_law_k" : PySem.Str), 2)]) (blk_of (N := ["_law_chart", "_law_values", "_law_k"]) (sc := defScope (top 56)) (by decide +kernel)) (by decide) (fun _ _ _ _ _ => (gd_name (i := 2) sc__law_worth.nd (by rfl) (by first | exact .inl rfl | exact .inr rfl) (by first | exact .inl rfl | exact .inr rfl))) (fun _ _ _ _ _ => tds_nil) (fun _ _ _ _ _ => (pd_item (pd_item (pd_var (i := 1) (by rfl) (by first | exact .inl rfl | exact .inr (.inl rfl) | exact .inr (.inr rfl))) (pd_item (pd_item (pd_var (i := 0) (by rfl) (by first | exact .inl rfl | exact .inr (.inl rfl) | exact .inr (.inr rfl))) pd_int) (pd_var (i := 2) (by rfl) (by first | exact .inl rfl | exact .inr (.inl rfl) | exact .inr (.inr rfl))))) (pd_var (i := 2) (by rfl) (by first | exact .inl rfl | exact .inr (.inl rfl) | exact .inr (.inr rfl))))))))) sd_nil)
/-! ### _law_maps -/
def g__law_maps : DE → Option Out := (sSeq (sSet false 3 (eLstL (lCons (eTupL lNil) lNil))) (sSeq (sFor (iRange (e2 dAdd (e2 dMul (eVar 0) (eVar 1)) (eC (.int 1)))) (gtN 4) (sClr [4, 5, 6, 7, 8, 9] (sSeq (sSet true 5 (eLstL lNil)) (sSeq (sFor (iSeq (eVar 3)) (gtN 6) (sClr [6, 7, 8, 9] (sSeq (sFor (iRange (eVar 2)) (gtN 7) (sClr [7, 8, 9] (sSeq (sSet false 8 (e2 dMod (e2 dSub (eVar 4) (eC (.int 1))) (eVar 1))) (sSeq (sSet false 9 (eIf (eTru (e2 dEq (eVar 4) (eC (.int 0)))) (eC .none) (eIf (eTru (e2 dEq (eVar 8) (eC (.int 0)))) (e2 dIx (eVar 6) (eC (.int 0))) (e2 dIx (eVar 6) (e2 dSub (eVar 4) (eC (.int 1))))))) (sSeq (sIf (tOrF (eTru (e2 dEq (eVar 7) (eVar 9))) (eTru (e2 (dIn true) (eVar 7) (eVar 6)))) (sSeq (sApp 5 (e2 dAdd (eVar 6) (eTupL (lCons (eVar 7) lNil)))) sNil) sNil) sNil))))) sNil))) (sSeq (sFrz 3 5) sNil))))) (sSeq (sRet (eLc [6] (iSeq (eVar 3)) (gtN 6) (eTru (e2 dEq (e1 dLenSet (eVar 6)) (eVar 2))) (eTupL (lCons (eVar 0) (lCons (eVar 6) lNil))))) sNil)))
def F__law_maps : List DV → Option DV := fnF 10 g__law_maps
theorem sc__law_maps : FnScope ["_law_arms", "_law_length", "_law_lands", "_law_found", "_law_cell", "_law_more", "_law_one", "_law_land", "_law_step", "_law_inner"] ["_law_arms", "_law_length", "_law_lands"] (defScope (top 57)) := ⟨by rfl, by rfl, by rfl, by decide +kernel, by rfl, by decide +kernel, by decide +kernel⟩
theorem ok__law_maps (M : MF mg) (F : FunD K "_law_maps" "_law_maps" (defArgs (top 57)) (defBody (top 57)) (defScope (top 57)) [] [] (He.fAd K ("_law_maps", none)) fd) (hm : mg "_law_maps" = some (.ref (He.fAd K ("_law_maps", none)))) : C8.Cal P w K mg base 4 "_law_maps" (spD ⟨P, w, T⟩ 3 F__law_maps) [] := by
  refine cal_fd (k := 3) (N := ["_law_arms", "_law_length", "_law_lands", "_law_found", "_law_cell", "_law_more", "_law_one", "_law_land", "_law_step", "_law_inner"]) (ps := ["_law_arms", "_law_length", "_law_lands"]) (g := g__law_maps) F hm sc__law_maps (fun _ _ _ _ _ _ us hl => match us, hl with | [_, _, _], _ => rfl) (fun A outer s H E hr => ?_)
  exact (sd_cons (sd_set false (i := 3) sc__law_maps.nd (by rfl) (by first | exact .inl rfl | exact .inr rfl) (pd_frz (pd_lstL (ld_cons (pd_tupL ld_nil) ld_nil))) (by first | exact .inl rfl | exact .inr rfl)) (sd_cons (sd_for PassesOwn.never (by rfl) (id_range M.range (pd_add (pd_mul (pd_var (i := 0) (by rfl) (by first | exact .inl rfl | exact .inr (.inl rfl) | exact .inr (.inr rfl))) (pd_var (i := 1) (by rfl) (by first | exact .inl rfl | exact .inr (.inl rfl) | exact .inr (.inr rfl)))) pd_int)) (gd_name (i := 4) sc__law_maps.nd (by rfl) (by first | exact .inl rfl | exact .inr rfl) (by first | exact .inl rfl | exact .inr rfl)) (sd_clr [4, 5, 6, 7, 8, 9] (sd_cons (sd_set true (i := 5) sc__law_maps.nd (by rfl) (by first | exact .inl rfl | exact .inr rfl) (pd_lstL ld_nil) (by first | exact .inl rfl | exact .inr rfl)) (sd_cons (sd_for PassesOwn.never (by rfl) (id_seq (pd_var (i := 3) (by rfl) (by first | exact .inl rfl | exact .inr (.inl rfl) | exact .inr (.inr rfl)))) (gd_name (i := 6) sc__law_maps.nd (by rfl) (by first | exact .inl rfl | exact .inr rfl) (by first | exact .inl rfl | exact .inr rfl)) (sd_clr [6, 7, 8, 9] (sd_cons (sd_for PassesOwn.never (by rfl) (id_range M.range (pd_var (i := 2) (by rfl) (by first | exact .inl rfl | exact .inr (.inl rfl) | exact .inr (.inr rfl)))) (gd_name (i := 7) sc__law_maps.nd (by rfl) (by first | exact .inl rfl | exact .inr rfl) (by first | exact .inl rfl | exact .inr rfl)) (sd_clr [7, 8, 9] (sd_cons (sd_set false (i := 8) sc__law_maps.nd (by rfl) (by first | exact .inl rfl | exact .inr rfl) (pd_mod (pd_sub (pd_var (i := 4) (by rfl) (by first | exact .inl rfl | exact .inr (.inl rfl) | exact .inr (.inr rfl))) pd_int) (pd_var (i := 1) (by rfl) (by first | exact .inl rfl | exact .inr (.inl rfl) | exact .inr (.inr rfl)))) (by first | exact .inl rfl | exact .inr rfl)) (sd_cons (sd_set false (i := 9) sc__law_maps.nd (by rfl) (by first | exact .inl rfl | exact .inr rfl) (pd_if (td_c (c_eq hr) (pd_var (i := 4) (by rfl) (by first | exact .inl rfl | exact .inr (.inl rfl) | exact .inr (.inr rfl))) pd_int) pd_non (pd_if (td_c (c_eq hr) (pd_var (i := 8) (by rfl) (by first | exact .inl rfl | exact .inr (.inl rfl) | exact .inr (.inr rfl))) pd_int) (pd_item (pd_var (i := 6) (by rfl) (by first | exact .inl rfl | exact .inr (.inl rfl) | exact .inr (.inr rfl))) pd_int) (pd_item (pd_var (i := 6) (by rfl) (by first | exact .inl rfl | exact .inr (.inl rfl) | exact .inr (.inr rfl))) (pd_sub (pd_var (i := 4) (by rfl) (by first | exact .inl rfl | exact .inr (.inl rfl) | exact .inr (.inr rfl))) pd_int)))) (by first | exact .inl rfl | exact .inr rfl)) (sd_cons (sd_if (PW.pt (wd_or (td_c (c_eq hr) (pd_var (i := 7) (by rfl) (by first | exact .inl rfl | exact .inr (.inl rfl) | exact .inr (.inr rfl))) (pd_var (i := 9) (by rfl) (by first | exact .inl rfl | exact .inr (.inl rfl) | exact .inr (.inr rfl)))) (pw_or1 (td_c (c_nin hr) (pd_var (i := 7) (by rfl) (by first | exact .inl rfl | exact .inr (.inl rfl) | exact .inr (.inr rfl))) (pd_var (i := 6) (by rfl) (by first | exact .inl rfl | exact .inr (.inl rfl) | exact .inr (.inr rfl))))))) (sd_cons (sd_app (i := 5) (by rfl) (by first | exact .inl rfl | exact .inr (.inl rfl) | exact .inr (.inr rfl)) (pd_add (pd_var (i := 6) (by rfl) (by first | exact .inl rfl | exact .inr (.inl rfl) | exact .inr (.inr rfl))) (pd_tupL (ld_cons (pd_var (i := 7) (by rfl) (by first | exact .inl rfl | exact .inr (.inl rfl) | exact .inr (.inr rfl))) ld_nil)))) sd_nil) sd_nil) sd_nil))))) sd_nil))) (sd_cons (sd_frz (i := 3) (j := 5) sc__law_maps.nd (by rfl) (by first | exact .inl rfl | exact .inr rfl) (by rfl) (by first | exact .inl rfl | exact .inr (.inl rfl) | exact .inr (.inr rfl)) (by first | exact .inl rfl | exact .inr rfl)) sd_nil))))) (sd_cons (sd_ret (pd_frz (pd_lc (by rfl) sc__law_maps.nd (id_seq (pd_var (i := 3) (by rfl) (by first | exact .inl rfl | exact .inr (.inl rfl) | exact .inr (.inr rfl)))) (own := [(("_law_one" : PySem.Str), 6)]) (blk_of (N := ["_law_arms", "_law_length", "_law_lands", "_law_found", "_law_cell", "_law_more", "_law_one", "_law_land", "_law_step", "_law_inner"]) (sc := defScope (top 57)) (by decide +kernel)) (by decide) (fun _ _ _ _ _ => (gd_name (i := 6) sc__law_maps.nd (by rfl) (by first | exact .inl rfl | exact .inr rfl) (by first | exact .inl rfl | exact .inr rfl))) (fun _ _ _ _ _ => tds_one (td_c (c_eq hr) (pd_lenset (by rfl) M.len M.set (pd_var (i := 6) (by rfl) (by first | exact .inl rfl | exact .inr (.inl rfl) | exact .inr (.inr rfl)))) (pd_var (i := 2) (by rfl) (by first | exact .inl rfl | exact .inr (.inl rfl) | exact .inr (.inr rfl))))) (fun _ _ _ _ _ => (pd_tupL (ld_cons (pd_var (i := 0) (by rfl) (by first | exact .inl rfl | exact .inr (.inl rfl) | exact .inr (.inr rfl))) (ld_cons (pd_var (i := 6) (by rfl) (by first | exact .inl rfl | exact .inr (.inl rfl) | exact .inr (.inr rfl))) ld_nil))))))) sd_nil)))
end K08
end

section
set_option Elab.async false
set_option linter.all false
set_option maxRecDepth 100000
set_option maxHeartbeats 4000000
/-! the defs of the linked text as functions of data: printed by gen.py. -/
namespace K08
open PySem PySem.Spec PyProof.Rows L2 FD
variable {P : Program} {w : World} {K : PySem.W.Frag} {mg : Str → Option Value} {base : Heap} {fd : FuncData} {T : List Addr}
/-! ### _law_alike, by levels -/
def g__law_alike (Fr : List DV → Option DV) : DE → Option Out := (sSeq (sIf (eTru (e1 (dIsi2 "tuple" "list") (eVar 1))) (sSeq (sIf (tOrF (tNotF (eTru (e1 (dIsi2 "tuple" "list") (eVar 0)))) (eTru (e2 dNe (e1 (dIsi "list") (eVar 0)) (e1 (dIsi "list") (eVar 1))))) (sSeq (sRet (eC (.bool false))) sNil) sNil) (sSeq (sIf (eTru (e2 dNe (e1 dLen (eVar 0)) (e1 dLen (eVar 1)))) (sSeq (sRet (eC (.bool false))) sNil) sNil) (sSeq (sRet (e2 dEq (eLc [2] (iRange (e1 dLen (eVar 1))) (gtN 2) (tNotF (eTru (eCall Fr (aCons (e2 dIx (eVar 0) (eVar 2)) (aCons (e2 dIx (eVar 1) (eVar 2)) aNil))))) (eVar 2)) (eLstL lNil))) sNil))) sNil) (sSeq (sIf (tOrF (eTru (e2 dIs (eVar 1) (eC .none))) (eTru (e1 (dIsi "str") (eVar 1)))) (sSeq (sRet (eAnd (e2 dEq (eVar 0) (eVar 1)) (e2 dEq (e1 (dIsi "str") (eVar 0)) (e1 (dIsi "str") (eVar 1))))) sNil) sNil) (sSeq (sRet (eAnd (e1 (dIsi "int") (eVar 0)) (eAnd (e2 dEq (e1 (dIsi "bool") (eVar 0)) (e1 (dIsi "bool") (eVar 1))) (e2 dEq (eVar 0) (eVar 1))))) sNil)))
def F__law_alike : Nat → List DV → Option DV
  | 0 => fnF 3 sNever
  | n + 1 => fnF 3 (g__law_alike (F__law_alike n))
theorem sc__law_alike : FnScope ["_law_found", "_law_due", "_law_k"] ["_law_found", "_law_due"] (defScope (top 46)) := ⟨by rfl, by rfl, by rfl, by decide +kernel, by rfl, by decide +kernel, by decide +kernel⟩
theorem ok__law_alike (M : MF mg) (F : FunD K "_law_alike" "_law_alike" (defArgs (top 46)) (defBody (top 46)) (defScope (top 46)) [] [] (He.fAd K ("_law_alike", none)) fd) (hm : mg "_law_alike" = some (.ref (He.fAd K ("_law_alike", none)))) : ∀ n : Nat, C8.Cal P w K mg base (4 * n + 4) "_law_alike" (spD ⟨P, w, T⟩ 2 (F__law_alike n)) []
  | 0 => cal_fd (k := 3) (N := ["_law_found", "_law_due", "_law_k"]) (ps := ["_law_found", "_law_due"]) (g := sNever) F hm sc__law_alike (fun _ _ _ _ _ _ us hl => match us, hl with | [_, _], _ => rfl) (fun A outer s H E hr => sd_never)
  | n + 1 => by
    have cr := ok__law_alike M F hm n
    refine cal_fd (k := 4 * (n + 1) + 3) (N := ["_law_found", "_law_due", "_law_k"]) (ps := ["_law_found", "_law_due"]) (g := g__law_alike (F__law_alike n)) F hm sc__law_alike (fun _ _ _ _ _ _ us hl => match us, hl with | [_, _], _ => rfl) (fun A outer s H E hr => ?_)
    exact (sd_cons (sd_if (td_tru (pd_isi2 (.inr (.inr (.inl rfl))) (.inr (.inr (.inr (.inl rfl)))) M.isinstance M.tuple M.list (by rfl) (by rfl) (pd_var (i := 1) (by rfl) (by first | exact .inl rfl | exact .inr (.inl rfl) | exact .inr (.inr rfl))))) (sd_cons (sd_if (PW.pt (wd_or (td_not (td_tru (pd_isi2 (.inr (.inr (.inl rfl))) (.inr (.inr (.inr (.inl rfl)))) M.isinstance M.tuple M.list (by rfl) (by rfl) (pd_var (i := 0) (by rfl) (by first | exact .inl rfl | exact .inr (.inl rfl) | exact .inr (.inr rfl)))))) (pw_or1 (td_c (c_ne hr) (pd_isi (.inr (.inr (.inr (.inl rfl)))) M.isinstance M.list (by rfl) (pd_var (i := 0) (by rfl) (by first | exact .inl rfl | exact .inr (.inl rfl) | exact .inr (.inr rfl)))) (pd_isi (.inr (.inr (.inr (.inl rfl)))) M.isinstance M.list (by rfl) (pd_var (i := 1) (by rfl) (by first | exact .inl rfl | exact .inr (.inl rfl) | exact .inr (.inr rfl)))))))) (sd_cons (sd_ret pd_bl) sd_nil) sd_nil) (sd_cons (sd_if (td_c (c_ne hr) (pd_len M.len (pd_var (i := 0) (by rfl) (by first | exact .inl rfl | exact .inr (.inl rfl) | exact .inr (.inr rfl)))) (pd_len M.len (pd_var (i := 1) (by rfl) (by first | exact .inl rfl | exact .inr (.inl rfl) | exact .inr (.inr rfl))))) (sd_cons (sd_ret pd_bl) sd_nil) sd_nil) (sd_cons (sd_ret (pd_c (c_eq hr) (pd_frz (pd_lc (by rfl) sc__law_alike.nd (id_range M.range (pd_len M.len (pd_var (i := 1) (by rfl) (by first | exact .inl rfl | exact .inr (.inl rfl) | exact .inr (.inr rfl))))) (own := [(("_law_k" : PySem.Str), 2)]) (blk_of (N := ["_law_found", "_law_due", "_law_k"]) (sc := defScope (top 46)) (by decide +kernel)) (by decide) (fun _ _ _ _ _ => (gd_name (i := 2) sc__law_alike.nd (by rfl) (by first | exact .inl rfl | exact .inr rfl) (by first | exact .inl rfl | exact .inr rfl))) (fun _ _ _ _ _ => tds_one (td_not (td_tru (pd_call cr hr (by omega) (by rfl) (n := 2) (ad_cons (pd_item (pd_var (i := 0) (by rfl) (by first | exact .inl rfl | exact .inr (.inl rfl) | exact .inr (.inr rfl))) (pd_var (i := 2) (by rfl) (by first | exact .inl rfl | exact .inr (.inl rfl) | exact .inr (.inr rfl)))) (ad_cons (pd_item (pd_var (i := 1) (by rfl) (by first | exact .inl rfl | exact .inr (.inl rfl) | exact .inr (.inr rfl))) (pd_var (i := 2) (by rfl) (by first | exact .inl rfl | exact .inr (.inl rfl) | exact .inr (.inr rfl)))) ad_nil)))))) (fun _ _ _ _ _ => (pd_var (i := 2) (by rfl) (by first | exact .inl rfl | exact .inr (.inl rfl) | exact .inr (.inr rfl)))))) (pd_frz (pd_lstL ld_nil)))) sd_nil))) sd_nil) (sd_cons (sd_if (PW.pt (wd_or (td_c c_is (pd_var (i := 1) (by rfl) (by first | exact .inl rfl | exact .inr (.inl rfl) | exact .inr (.inr rfl))) pd_non) (pw_or1 (td_tru (pd_isi (.inr (.inr (.inr (.inr rfl)))) M.isinstance M.str (by rfl) (pd_var (i := 1) (by rfl) (by first | exact .inl rfl | exact .inr (.inl rfl) | exact .inr (.inr rfl)))))))) (sd_cons (sd_ret (pd_and (pd_c (c_eq hr) (pd_var (i := 0) (by rfl) (by first | exact .inl rfl | exact .inr (.inl rfl) | exact .inr (.inr rfl))) (pd_var (i := 1) (by rfl) (by first | exact .inl rfl | exact .inr (.inl rfl) | exact .inr (.inr rfl)))) (pd_one (pd_c (c_eq hr) (pd_isi (.inr (.inr (.inr (.inr rfl)))) M.isinstance M.str (by rfl) (pd_var (i := 0) (by rfl) (by first | exact .inl rfl | exact .inr (.inl rfl) | exact .inr (.inr rfl)))) (pd_isi (.inr (.inr (.inr (.inr rfl)))) M.isinstance M.str (by rfl) (pd_var (i := 1) (by rfl) (by first | exact .inl rfl | exact .inr (.inl rfl) | exact .inr (.inr rfl)))))))) sd_nil) sd_nil) (sd_cons (sd_ret (pd_and (pd_isi (.inl rfl) M.isinstance M.int (by rfl) (pd_var (i := 0) (by rfl) (by first | exact .inl rfl | exact .inr (.inl rfl) | exact .inr (.inr rfl)))) (pd_and (pd_c (c_eq hr) (pd_isi (.inr (.inl rfl)) M.isinstance M.bool (by rfl) (pd_var (i := 0) (by rfl) (by first | exact .inl rfl | exact .inr (.inl rfl) | exact .inr (.inr rfl)))) (pd_isi (.inr (.inl rfl)) M.isinstance M.bool (by rfl) (pd_var (i := 1) (by rfl) (by first | exact .inl rfl | exact .inr (.inl rfl) | exact .inr (.inr rfl))))) (pd_one (pd_c (c_eq hr) (pd_var (i := 0) (by rfl) (by first | exact .inl rfl | exact .inr (.inl rfl) | exact .inr (.inr rfl))) (pd_var (i := 1) (by rfl) (by first | exact .inl rfl | exact .inr (.inl rfl) | exact .inr (.inr rfl)))))))) sd_nil)))
end K08
end

section
set_option Elab.async false
set_option linter.all false
set_option maxRecDepth 100000
set_option maxHeartbeats 4000000
/-! FD18: defs that change the list they are handed (the row of a script): expressions and statements whose value is one of many. -/
namespace FD
open PySem PySem.Spec PyProof.Rows L2
/-- the row: the script at q, three whole numbers -/
def RowG (H : Hp) (r q : Addr) : Prop := ∃ p a z : Int, H r = some (.lst [.ref q, .int p, .int a, .int z]) ∧ 0 ≤ p ∧ 0 ≤ a ∧ a < 2147483647 ∧ 0 ≤ z
def KSq (K : PySem.W.Frag) (a : Addr) (xs : List V) : Prop := ∃ (o : Obj) (its : Array Value) (n : Nat), K.lookup a = some o ∧ o.cls = .type "list" ∧ o.dict = none ∧ o.data = .seq its n ∧ its.size ≤ sizeLine ∧ Vals xs its.toList
/-- the script stands at q, whatever is written at r -/
def ScrG (K : PySem.W.Frag) (H : Hp) (r q : Addr) (xs : List V) : Prop := (Rd H q (.lst xs) ∧ q ≠ r) ∨ KSq K q xs
theorem ScrG.sq {K : PySem.W.Frag} {H : Hp} {r q : Addr} {xs : List V} (h : ScrG K H r q xs) : SqL K H q xs := h.elim (fun h => .inl h.1) .inr
def Hm (r : Addr) (H : Hp) : Hp := fun b => if b = r then none else H b
theorem Hm_ne {r b : Addr} {H : Hp} (h : b ≠ r) : Hm r H b = H b := if_neg h
theorem Hm_some {r b : Addr} {H : Hp} {o : HO} (h : Hm r H b = some o) : b ≠ r ∧ H b = some o := by
  unfold Hm at h
  split at h
  · cases h
  · exact ⟨by assumption, h⟩
abbrev GrowR (T : List Addr) (r : Addr) (S H S' H' : Hp) : Prop := Grow T S (Hm r H) S' H'
section
variable {X : Cx} {E : Fx} {K : PySem.W.Frag} {m m1 m2 : M} {f f1 f2 f3 : DE → Option DV} {a b c tg : Expr} {pos p q1 : Pos} {T : List Addr} {k i : Nat} {x : Str} {id : String}
variable {env env' : DE} {σ σ' : L2.St} {S H S' H' S0 F S1 H1 S2 H2 : Hp} {r q : Addr} {ns : List Int}
theorem GrowR.of (g : Grow T S H S' H') : GrowR T r S H S' H' := ⟨g.ss, g.sh, fun b o n e => g.hh b o n (Hm_some e).2, fun b o e n => g.nw b o (Hm_some e).2 n, g.tb⟩
theorem GrowR.trans (a : GrowR T r S H S1 H1) (b : GrowR T r S1 H1 S2 H2) : GrowR T r S H S2 H2 where
  ss := a.ss.trans b.ss
  sh := b.sh
  hh := fun c o n e => b.hh c o n (by rw [Hm_ne (Hm_some e).1]; exact a.hh c o n e)
  nw := fun c o e n => by
    have n1 := a.nw c o e n
    have hc := (Hm_some e).1
    by_cases hT : c ∈ T
    · obtain ⟨u, hu⟩ := TabG.some (a.tb c hT)
      exact b.nw c u (by rw [Hm_ne hc]; exact hu) n1
    · exact b.nw c o (by rw [Hm_ne hc]; exact a.hh c o hT e) n1
  tb := b.tb
structure RelX (E : Fx) (K : PySem.W.Frag) (i : Nat) (r q : Addr) (ns : List Int) (env : DE) (σ : L2.St) (S H : Hp) : Prop where
  rel : RelE E env σ S H
  row : RowG H r q
  nS : S r = none
  no : ∀ (j : Nat) (x : DV) (a : Addr), env[j]? = some (some (true, x)) → σ[j]? = some (some (V.ref a)) → a ≠ r ∧ (KSq K q (ns.map V.int) ∨ a ≠ q)
  rv : env[i]? = some (some (false, .adr r))
  scr : ScrG K H r q (ns.map V.int)
  len : ns.length ≤ 100000
theorem RelX.rT (h : RelX E K i r q ns env σ S H) : r ∉ E.T := by
  obtain ⟨p, a, z, e, _⟩ := h.row
  exact notTab h.rel.tabs e (fun ps => nofun)
theorem ScrG.keep {xs : List V} (h : ScrG K H r q xs) (tb : ∀ P ∈ T, GxR.TabG H P) (hh : ∀ b o, b ∉ T → b ≠ r → H b = some o → H' b = some o) : ScrG K H' r q xs := by
  rcases h with ⟨h, n⟩ | h
  · refine .inl ⟨?_, n⟩
    have key : ∀ o, H q = some o → (∀ ps, o ≠ .tbl ps) → H' q = some o := fun o e nt => hh q o (notTab tb e nt) n e
    rcases h with e | ⟨o, e⟩
    · exact .inl (key _ e fun ps => nofun)
    · exact .inr ⟨o, key _ e fun ps => nofun⟩
  · exact .inr h
theorem RelX.grow (h : RelX E K i r q ns env σ S H) (g : GrowR E.T r S H S' H') (row : RowG H' r q) (nS : S' r = none) : RelX E K i r q ns env σ S' H' where
  rel := {
    len := h.rel.len
    sh := g.sh
    tb := fun P hP => ⟨g.tb P hP, by
      obtain ⟨o, e⟩ := TabG.some (h.rel.tb P hP).1
      exact g.nw P o (by rw [Hm_ne (fun z => h.rT (z ▸ hP) : P ≠ r)]; exact e) (h.rel.tb P hP).2⟩
    val := fun j x e => by
      obtain ⟨v, h1, h2⟩ := h.rel.val j x e
      exact ⟨v, h1, h2.sub g.ss⟩
    own := fun j x e => by
      obtain ⟨a, o, h1, h2, h3, h4⟩ := h.rel.own j x e
      have n := (h.no j x a e h1).1
      exact ⟨a, o, h1, g.nw a o (by rw [Hm_ne n]; exact h3) h2, g.hh a o (notTab h.rel.tabs h3 h4.noTab) (by rw [Hm_ne n]; exact h3), h4.sub g.ss⟩
    uniq := h.rel.uniq }
  row := row
  nS := nS
  no := h.no
  rv := h.rv
  scr := h.scr.keep h.rel.tabs fun b o n1 n2 e => g.hh b o n1 (by rw [Hm_ne n2]; exact e)
  len := h.len
theorem RelX.growP (h : RelX E K i r q ns env σ S H) (g : Grow E.T S H S' H') : RelX E K i r q ns env σ S' H' := by
  obtain ⟨p, a, z, e, rest⟩ := h.row
  exact h.grow (GrowR.of g) ⟨p, a, z, g.hh r _ h.rT e, rest⟩ (g.nw r _ e h.nS)
theorem RowG.keepP (h : RelX E K i r q ns env σ S H) (g : Grow E.T S H S' H') : RowG H' r q ∧ S' r = none := ⟨(h.growP g).row, (h.growP g).nS⟩

/-! ### expressions -/
abbrev Wx := DE → (DV → Prop) → Prop
def tX (E : Fx) (K : PySem.W.Frag) (i : Nat) (m : M) (W : Wx) : TE := fun σ H Q => ∃ r q ns S env Qd, RelX E K i r q ns env σ S H ∧ W env Qd ∧ ∀ x, Qd x → ∀ v S' H', GrowR E.T r S H S' H' → RowG H' r q → S' r = none → VOk E m S' H H' v x → Q v H'
def xE (f : DE → Option DV) : Wx := fun env Q => ∃ x, f env = some x ∧ Q x
theorem rx_of {e : Expr} (h : PE X e (tE E m f)) : PE X e (tX E K i m (xE f)) := h.imp fun σ H Q ⟨r, q, ns, S, env, Qd, rel, ⟨x, ex, qx⟩, k⟩ =>
  ⟨S, env, x, rel.rel, ex, fun v S' H' g hv => k x qx v S' H' (GrowR.of g) (RowG.keepP rel g).1 (RowG.keepP rel g).2 hv⟩
def x1 (g : DV → Option DV) (W : Wx) : Wx := fun env Q => W env fun x => ∃ y, g x = some y ∧ Q y
def x2 (g : DV → DV → Option DV) (W1 W2 : Wx) : Wx := fun env Q => W1 env fun x => W2 env fun y => ∃ z, g x y = some z ∧ Q z
variable {W W1 W2 : Wx}
theorem tX2 {rr : R2} {g : DV → DV → Option DV} (hk : Step2 E .val .val m rr g) {Q : VK} (h : tX E K i m (x2 g W1 W2) σ H Q) : tOp rr (tX E K i .val W1) (tX E K i .val W2) σ H Q := by
  obtain ⟨r, q, ns, S, env, Qd, rel, w, k⟩ := h
  refine ⟨r, q, ns, S, env, _, rel, w, fun x hx v S1 H1 g1 row1 n1 hv => ?_⟩
  have r1 := rel.grow g1 row1 n1
  refine ⟨r, q, ns, S1, env, _, r1, hx, fun y hy u S2 H2 g2 row2 n2 hu => ?_⟩
  have r2 := r1.grow g2 row2 n2
  obtain ⟨z, ez, qz⟩ := hy
  refine hk S2 H H2 v u x y z Q r2.rel.sh r2.rel.tb (show Dn E S2 v x from Dn.sub g2.ss hv) hu ez fun w S3 H3 g3 hw => ?_
  have row3 := RowG.keepP r2 g3
  exact k z qz w S3 H3 ((g1.trans g2).trans (GrowR.of g3)) row3.1 row3.2 (hw.back fun a n => by
    have := g3.free (a := a)
    have h2 : H2 a = none := n
    by_cases e : a = r
    · subst e; obtain ⟨_, _, _, e', _⟩ := r2.row; rw [h2] at e'; cases e'
    · have h1 := (g1.trans g2).free (a := a) h2
      rwa [Hm_ne e] at h1)
theorem rx_op {op : Operator} {rr : R2} {g : DV → DV → Option DV} (hr : OpR X (binaryOp op) rr) (hk : Step2 E .val .val m rr g) (ha : PE X a (tX E K i .val W1)) (hb : PE X b (tX E K i .val W2)) : PE X (.BinOp a op b pos) (tX E K i m (x2 g W1 W2)) :=
  (pe_op hr ha hb).imp fun _ _ _ q => tX2 hk q
end
end FD
end

section
set_option Elab.async false
set_option linter.all false
set_option maxRecDepth 100000
set_option maxHeartbeats 4000000
/-! FD19: the row: calls, comprehensions, statements. -/
namespace FD
open PySem PySem.Spec PyProof.Rows L2
section
variable {X : Cx} {E : Fx} {K : PySem.W.Frag} {m m1 m2 : M} {f f1 f2 f3 : DE → Option DV} {a b c tg : Expr} {pos p q1 : Pos} {T : List Addr} {k i j : Nat} {x : Str} {id : String}
variable {env env' : DE} {σ σ' : L2.St} {S H S' H' S0 F S1 H1 S2 H2 : Hp} {r q : Addr} {ns : List Int} {W W1 W2 : Wx}
theorem rx_ix {rr : R2} {g : DV → DV → Option DV} (hr : IxR X rr) (hk : Step2 E .val .val m rr g) (ha : PE X a (tX E K i .val W1)) (hb : PE X b (tX E K i .val W2)) (hs : PlainIx b := by exact fun _ _ => rfl) : PE X (.Subscript a b pos) (tX E K i m (x2 g W1 W2)) :=
  (pe_ix hr ha hb hs).imp fun _ _ _ q => tX2 hk q
theorem back_free (rel : RelX E K i r q ns env σ S H) (g : GrowR E.T r S H S' H') (row : RowG H' r q) {a : Addr} (h : H' a = none) : H a = none := by
  by_cases e : a = r
  · subst e; obtain ⟨_, _, _, e', _⟩ := row; rw [h] at e'; cases e'
  · have := g.free h
    rwa [Hm_ne e] at this
theorem tX1 {rr : List V → Hp → VK → Prop} {g : DV → Option DV} (hk : Step1 E m1 m rr g) {Q : VK} (h : tX E K i m (x1 g W) σ H Q) : tCB rr (tCons (tX E K i m1 W) tNil) σ H Q := by
  obtain ⟨r, q, ns, S, env, Qd, rel, w, k⟩ := h
  refine ⟨r, q, ns, S, env, _, rel, w, fun x hx v S1 H1 g1 row1 n1 hv => ?_⟩
  have r1 := rel.grow g1 row1 n1
  obtain ⟨y, ey, qy⟩ := hx
  refine hk S1 H H1 v x y Q r1.rel.sh r1.rel.tb hv ey fun u S2 H2 g2 hu => ?_
  have row2 := RowG.keepP r1 g2
  exact k y qy u S2 H2 (g1.trans (GrowR.of g2)) row2.1 row2.2 (hu.back fun a n => back_free rel g1 row1 n)
theorem step_tuple {K : PySem.W.Frag} : Step1 E m1 .val (fun ws H Q => ∃ (p : Addr) (vs : List V), ws = [.ref p] ∧ ((SqL K H p vs ∧ ∀ l, H l = none → Q (.ref l) (upd H l (.tup vs))) ∨ (SqT K H p vs ∧ Q (.ref p) H))) dTuple := by
  intro S H0 H x dx d Q sh tb hx e q
  unfold dTuple at e
  split at e
  · cases e
    obtain ⟨p, vs, rfl, h1, h2⟩ := rd_tup sh hx
    exact ⟨p, vs, rfl, .inr ⟨SqT.of h1, q _ S H (Grow.one sh tb) (rd_tupD hx)⟩⟩
  · cases e
    obtain ⟨p, vs, rfl, h1, h2⟩ := rd_list sh hx
    refine ⟨p, vs, rfl, .inl ⟨SqL.of h1, fun l n => ?_⟩⟩
    obtain ⟨g, z⟩ := dq_lay_tup (T := E.T) sh tb n h2
    exact q _ _ _ g z
  · cases e
theorem rx_tuple (hm : X.mg "tuple" = none) (ha : PE X a (tX E K i m1 W)) (hg : Gl X "tuple" := by rfl) (he : starEach [a] X.env = (false, eval a X.env) :: starEach [] X.env := by rfl) (hpl : (backTo pos (starEach [] X.env)).any (·.1) = false := by rfl) :
    PE X (.Call (.Name "tuple" p) [a] [] pos) (tX E K i .val (x1 dTuple W)) :=
  (pe_callTy call_tuple_of hg hm PyProof.Rows.boot_tuple (pa_cons ha pa_nil he) (he := he) (hpl := hpl)).imp fun _ _ _ q => tX1 step_tuple q

/-! ### a def that is handed the row -/
abbrev Wf := List DV → (DV → Prop) → Prop
def spX (E : Fx) (K : PySem.W.Frag) (n : Nat) (W : Wf) : Sp := fun vs H Q _ => ∃ (r q : Addr) (ns : List Int) (S : Hp) (vs' : List V) (xs : List DV) (Qd : DV → Prop), vs = .ref r :: vs' ∧ Sub S H ∧ (∀ P ∈ E.T, GxR.TabG H P ∧ S P = none) ∧ DnAll E S vs' xs ∧ xs.length = n ∧ RowG H r q ∧ S r = none ∧ ScrG K H r q (ns.map V.int) ∧ ns.length ≤ 100000 ∧ W xs Qd ∧
  ∀ x, Qd x → ∀ v S' H', GrowR E.T r S H S' H' → RowG H' r q → S' r = none → Dn E S' v x → Q v H'
theorem spX_len {n : Nat} {W : Wf} (vs : List V) (H : Hp) (Q : VK) (Ex : XK) (h : spX E K n W vs H Q Ex) : vs.length = n + 1 := by
  obtain ⟨r, q, ns, S, vs', xs, Qd, rfl, _, _, hd, hl, _⟩ := h
  rw [List.length_cons, hd.length, hl]
def xC (W : Wf) (fa : DE → Option (List DV)) : Wx := fun env Q => ∃ xs, fa env = some xs ∧ W xs Q
variable {fa : DE → Option (List DV)}
theorem rx_call {n l : Nat} {Wc : Wf} {es : List Expr} {rn : Str} {pr : Pos} (cl : C8.Cal X.prog X.w X.K X.mg X.base k x (spX E K n Wc) []) (hr : Room l X.A) (hk : k ≤ l) (hg : Gl X x) (hi : X.N[i]? = some rn) (hv : Vis X.env.scope rn) (ha : PA X es (tA E (vals n) fa)) (hd : (rn == ("__debug__" : Str)) = false := by decide) (hcd : (rn == ("__classdict__" : Str)) = false := by decide)
    (hdb : (x == ("__debug__" : Str)) = false := by decide) (he : starEach (.Name rn pr :: es) X.env = (false, eval (.Name rn pr) X.env) :: starEach es X.env := by rfl) (hpl : (backTo pos (starEach es X.env)).any (·.1) = false := by rfl) :
    PE X (.Call (.Name x p) (.Name rn pr :: es) [] pos) (tX E K i .val (xC Wc fa)) :=
  (C8.pe_c cl hr hk hg (pa_cons (pe_var hi hv hd hcd) ha he) hdb he hpl).imp fun σ H Q ⟨r, q, ns, S, env, Qd, rel, ⟨xs, ex, w⟩, k⟩ => by
    obtain ⟨v0, h1, h2⟩ := rel.rel.val i _ rel.rv
    cases (show v0 = .ref r from h2)
    refine ⟨.ref r, h1, S, env, xs, rel.rel, ex, fun vs S1 H1 g1 hvs => ?_⟩
    obtain ⟨da, dl⟩ := vs_dn hvs
    have r1 := rel.growP g1
    refine ⟨r, q, ns, S1, vs, xs, Qd, by rw [List.append_nil], r1.rel.sh, r1.rel.tb, da, dl, r1.row, r1.nS, r1.scr, r1.len, w, fun x hx v S' H' g row n hv => k x hx v S' H' ((GrowR.of g1).trans g) row n hv⟩

/-! ### list comprehensions over a name -/
def lcW (j : Nat) (We : Wx) (env : DE) : List PyData → (List PyData → Prop) → Prop
  | [], Q => Q []
  | d :: ds, Q => We ((wipeD env [j]).set j (some (false, .dat d))) fun y => ∃ r, y = .dat r ∧ lcW j We env ds fun rs => Q (r :: rs)
def xLc (j : Nat) (fi : DE → Option (List PyData)) (We : Wx) : Wx := fun env Q => ∃ ds, fi env = some ds ∧ ds.length ≤ 100000 ∧ lcW j We env ds fun rs => Q (.dat (.list rs))
theorem RelX.blk (h : RelX E K i r q ns env σ S H) (hij : i ≠ j) {v : V} {d : PyData} (hv : Dq S v d) {σ2 : L2.St} (st : Stp [j] (wipeD env [j]) (wipe σ [j]) ((wipeD env [j]).set j (some (false, .dat d))) σ2) (rel : RelE E ((wipeD env [j]).set j (some (false, .dat d))) σ2 S H) :
    RelX E K i r q ns ((wipeD env [j]).set j (some (false, .dat d))) σ2 S H where
  rel := rel
  row := h.row
  nS := h.nS
  no := fun l x a e s => by
    obtain ⟨e1, s1⟩ := st.own l x e
    obtain ⟨e2, hn⟩ := wipeD_some e1
    rw [s1, wipe_out hn] at s
    exact h.no l x a e2 s
  rv := by
    rw [List.getElem?_set_ne (Ne.symm hij)]
    show ((wipeD env []).set j none)[i]? = _
    rw [List.getElem?_set_ne (Ne.symm hij)]
    exact h.rv
  scr := h.scr
  len := h.len
theorem tX_lc {fi : DE → Option (List PyData)} (hij : i ≠ j) {Q : VK} (h : tX E K i .own (xLc j fi W) σ H Q) : tLc (tI E fi) (tG E [j] (gtN j)) tYes (tX E K i .val W) [j] σ H Q := by
  obtain ⟨r, q, ns, S, env, Qd, rel, ⟨ds, eds, hz, w⟩, k⟩ := h
  refine ⟨S, env, ds, rel.rel, eds, fun J S1 H1 g1 it => ?_⟩
  intro D hD
  have rel1 := rel.growP g1
  have nT : D ∉ E.T := fun z => by
    obtain ⟨o, e⟩ := TabG.some (g1.tb D z)
    rw [hD] at e; cases e
  have nS : S1 D = none := by
    cases q : S1 D with
    | none => rfl
    | some o => have := g1.sh D o q; rw [hD] at this; cases this
  have nr : D ≠ r := fun z => by
    obtain ⟨_, _, _, e, _⟩ := rel1.row
    rw [← z, hD] at e; cases e
  have dr : ∀ {i : Nat} {d : PyData}, ds[i]? = some d → ds.drop i = d :: ds.drop (i + 1) := fun {i d} e => by
    obtain ⟨h1, h2⟩ := List.getElem?_eq_some_iff.mp e
    rw [List.drop_eq_getElem_cons h1, h2]
  have hDm : Hm r H1 D = none := by rw [Hm_ne nr]; exact hD
  have rowD : ∀ {H3 : Hp} {o : HO}, RowG H3 r q → RowG (upd H3 D o) r q := fun ⟨p, a, z, e, rest⟩ => ⟨p, a, z, by rw [upd_ne (Ne.symm nr)]; exact e, rest⟩
  refine ⟨fun t m H3 => m = ds.length - t ∧ t ≤ ds.length ∧ ∃ S3 acc accd, GrowR E.T r S1 H1 S3 H3 ∧ RowG H3 r q ∧ S3 r = none ∧ S3 D = none ∧ H3 D = some (.lst acc) ∧ DqAll S3 acc accd ∧ acc.length ≤ t ∧ lcW j W env (ds.drop t) (fun rs => Qd (.dat (.list (accd ++ rs)))),
    ⟨ds.length, by rw [Nat.sub_zero], Nat.zero_le _, S1, [], [], (GrowR.of (Grow.refl g1.sh g1.tb)).upd hDm nS nT, rowD rel1.row, rel1.nS, nS, upd_same, .nil, Nat.le_refl _, w⟩, ?_⟩
  rintro t m H3 ⟨rfl, hi, S3, acc, accd, g3, row3, nr3, n3, hD3, hacc, hlen, hgo⟩
  have rel3 := rel1.grow g3 row3 nr3
  have it3 := it S3 H3 g3.ss g3.sh rel3.rel.tb t
  by_cases hlt : t < ds.length
  · have ed : ds[t]? = some ds[t] := List.getElem?_eq_getElem hlt
    obtain ⟨go, yl⟩ := it3.1 _ ed
    refine .inr ⟨go, fun H' => ∃ S3 acc accd, GrowR E.T r S1 H1 S3 H' ∧ RowG H' r q ∧ S3 r = none ∧ S3 D = none ∧ H' D = some (.lst acc) ∧ DqAll S3 acc accd ∧ acc.length ≤ t + 1 ∧ lcW j W env (ds.drop (t + 1)) (fun rs => Qd (.dat (.list (accd ++ rs)))),
      fun H' z => ⟨ds.length - (t + 1), by omega, rfl, by omega, z⟩, fun x H4 y => ?_⟩
    obtain ⟨S4, g4, hx⟩ := yl x H4 y
    rw [dr ed] at hgo
    unfold lcW at hgo
    have rel4 := rel3.growP g4
    refine ⟨S4, wipeD env [j], ds[t], _, rel4.rel.wipe [j], hx, rfl, fun σ2 st r2 => ⟨(st.wp [j] fun i hi => hi).trans (wipe_in fun i hi => hi), ?_⟩⟩
    unfold tYes
    show ite _ _ _
    rw [if_pos rfl]
    refine ⟨r, q, ns, S4, _, _, rel4.blk hij hx st r2, hgo, fun yv hyv v S5 H5 g5 row5 n5 hv => ?_⟩
    obtain ⟨rr, rfl, hgo'⟩ := hyv
    have g45 := (GrowR.of (r := r) g4).trans g5
    have kD : H5 D = some (.lst acc) := g45.hh D _ nT (by rw [Hm_ne nr]; exact hD3)
    have kS : S5 D = none := g45.nw D _ (by rw [Hm_ne nr]; exact hD3) n3
    refine ⟨acc, kD, ?_, S5, acc ++ [v], accd ++ [rr], (g3.trans g45).upd hDm kS nT, rowD row5, n5, kS, upd_same, (DqAll.sub g45.ss _ _ hacc).append (.cons hv .nil), by rw [List.length_append]; exact Nat.succ_le_succ hlen, ?_⟩
    · have := small (n := acc.length + 1) (by omega)
      omega
    · have e : (fun rs => Qd (.dat (.list (accd ++ [rr] ++ rs)))) = fun rs => Qd (.dat (.list (accd ++ rr :: rs))) := by
        funext rs
        rw [List.append_assoc]; rfl
      rw [e]
      exact hgo'
  · have e : t = ds.length := by omega
    subst e
    rw [List.drop_length] at hgo
    have hgo : Qd (.dat (.list (accd ++ []))) := hgo
    rw [List.append_nil] at hgo
    exact .inl ⟨it3.2 (Nat.le_refl _), k _ hgo _ S3 H3 ((GrowR.of g1).trans g3) row3 nr3 ⟨D, _, rfl, g1.free hD, n3, hD3, acc, rfl, hacc⟩⟩
theorem rx_lc {elt iter : Expr} {scope : Scope} {jn : Str} {fi : DE → Option (List PyData)} (hij : i ≠ j) (hc : X.calm = true) (hN : X.N.Nodup) (hi : PI X tg iter (tI E fi)) (ok : BlkOk X.N X.env.scope scope [(jn, j)])
    (hg : ∀ (s : Shared) (H : Hp) (C : Addr) (cl : List (Str × Addr)) (fp : List Addr), PG (X.blk s H scope (compEnvC scope cl C X.env) fp) tg (tG E [j] (gtN j)))
    (he : ∀ (s : Shared) (H : Hp) (C : Addr) (cl : List (Str × Addr)) (fp : List Addr), PE (X.blk s H scope (compEnvC scope cl C X.env) fp) elt (tX E K i .val W)) (hs : ∀ x, foldedSetIterable iter X.env x = pure x := by intro _; rfl) :
    PE X (.ListComp elt [⟨tg, iter, [], 0⟩] scope pos) (tX E K i .own (xLc j fi W)) :=
  (pe_lc hc hN hi ok hg (fun _ _ _ _ _ => pts_nil) he hs).imp fun σ H Q h => tX_lc hij h

/-! ### statements -/
structure RelWS (E : Fx) (K : PySem.W.Frag) (i : Nat) (r q : Addr) (ns : List Int) (S0 F : Hp) (env : DE) (σ : L2.St) (S H : Hp) : Prop where
  x : RelX E K i r q ns env σ S H
  gr : GrowR E.T r S0 F S H
  fr : ∀ (j : Nat) (x : DV) (a : Addr), env[j]? = some (some (true, x)) → σ[j]? = some (some (V.ref a)) → F a = none
abbrev Ws := DE → (Out → Prop) → Prop
def OutW (E : Fx) (K : PySem.W.Frag) (i : Nat) (r q : Addr) (ns : List Int) (S0 F : Hp) (D : Ends) : Out → Prop
  | .nx env' => ∀ (σ' : L2.St) (S' H' : Hp), RelWS E K i r q ns S0 F env' σ' S' H' → D.nx σ' H'
  | .rt x => ∀ (v : V) (S' H' : Hp), GrowR E.T r S0 F S' H' → RowG H' r q → S' r = none → Dn E S' v x → D.rt v H'
def tW (E : Fx) (K : PySem.W.Frag) (i : Nat) (W : Ws) : TS := fun D σ H => ∃ r q ns S0 F S env Qo, RelWS E K i r q ns S0 F env σ S H ∧ W env Qo ∧ ∀ o, Qo o → OutW E K i r q ns S0 F D o
variable {Wa Wb : Ws} {g : DE → Option Out} {st : Stmt} {rest : List Stmt}
def wE (i : Nat) (g : DE → Option Out) : Ws := fun env Q => ∃ o, g env = some o ∧ (match o with | .nx env' => env'[i]? = env[i]? | .rt _ => True) ∧ Q o
open Classical in
theorem RelWS.fd (h : RelWS E K i r q ns S0 F env σ S H) : ∃ F2 : Hp, RelS E S F2 env σ S H ∧ (∀ b, (∀ (j : Nat) (x : DV), env[j]? = some (some (true, x)) → σ[j]? ≠ some (some (V.ref b))) → F2 b = H b) ∧ ∀ b o, F2 b = some o → H b = some o := by
  refine ⟨fun b => if ∃ (j : Nat) (x : DV), env[j]? = some (some (true, x)) ∧ σ[j]? = some (some (V.ref b)) then none else H b, ⟨h.x.rel, ⟨Sub.refl S, h.x.rel.sh, fun b o n e => ?_, fun b o e n => n, h.x.rel.tabs⟩, fun j x a e s => if_pos ⟨j, x, e, s⟩⟩, fun b hb => if_neg fun ⟨j, x, e, s⟩ => hb j x e s, fun b o e => ?_⟩
  · split at e
    · cases e
    · exact e
  · dsimp only at e
    split at e
    · cases e
    · exact e
theorem RelWS.of {F2 : Hp} (h : RelWS E K i r q ns S0 F env σ S H) (h2 : ∀ b, (∀ (j : Nat) (x : DV), env[j]? = some (some (true, x)) → σ[j]? ≠ some (some (V.ref b))) → F2 b = H b) (g : Grow E.T S F2 S' H') :
    GrowR E.T r S0 F S' H' ∧ RowG H' r q ∧ S' r = none ∧ ScrG K H' r q (ns.map V.int) ∧ (∀ a, F2 a = none → a ≠ r ∧ (KSq K q (ns.map V.int) ∨ a ≠ q)) ∧ ∀ a, F2 a = none → F a = none := by
  obtain ⟨p, a, z, e, rest⟩ := id h.x.row
  have fr : F2 r = some (.lst [.ref q, .int p, .int a, .int z]) := by rw [h2 r fun j x e s => (h.x.no j x r e s).1 rfl]; exact e
  have fF : ∀ b o, Hm r F b = some o → F b = some o := fun b o e => (Hm_some e).2
  have inF : ∀ b o, F b = some o → H b = some o → F2 b = some o := fun b o e1 e2 => by
    rw [h2 b fun j x e s => by rw [h.fr j x b e s] at e1; cases e1]; exact e2
  have notr : ∀ a, F2 a = none → a ≠ r := fun a n e => by rw [e, fr] at n; cases n
  have qF : KSq K q (ns.map V.int) ∨ ∃ o, F2 q = some o ∧ H q = some o ∧ (∀ ps, o ≠ .tbl ps) := by
    rcases h.x.scr with ⟨hq, nq⟩ | hq
    · by_cases hk : KSq K q (ns.map V.int)
      · exact .inl hk
      · have e2 : F2 q = H q := h2 q fun j x e s => ((h.x.no j x q e s).2.elim (fun z => hk z) fun z => z rfl)
        rcases hq with e' | ⟨o, e'⟩
        · exact .inr ⟨_, e2.trans e', e', fun ps => nofun⟩
        · exact .inr ⟨_, e2.trans e', e', fun ps => nofun⟩
    · exact .inl hq
  refine ⟨⟨h.gr.ss.trans g.ss, g.sh, fun b o n e => ?_, fun b o e n => ?_, g.tb⟩, ⟨p, a, z, g.hh r _ h.x.rT fr, rest⟩, g.nw r _ fr h.x.nS, ?_, fun a n => ⟨notr a n, ?_⟩, fun a n => ?_⟩
  · exact g.hh b o n (inF b o (fF b o e) (h.gr.hh b o n e))
  · have n1 := h.gr.nw b o e n
    by_cases hT : b ∈ E.T
    · obtain ⟨u, hu⟩ := TabG.some (h.x.rel.tb b hT).1
      refine g.nw b u ?_ n1
      rw [h2 b fun j x e s => ?_]
      · exact hu
      · obtain ⟨c, oc, s1, _, s3, s4⟩ := h.x.rel.own j x e
        rw [s] at s1; cases s1
        exact notTab h.x.rel.tabs s3 s4.noTab hT
    · exact g.nw b o (inF b o (fF b o e) (h.gr.hh b o hT e)) n1
  · rcases qF with hk | ⟨o, e1, e2, nt⟩
    · exact .inr hk
    · rcases h.x.scr with ⟨hq, nq⟩ | hq
      · have e3 := g.hh q o (notTab h.x.rel.tabs e2 nt) e1
        refine .inl ⟨?_, nq⟩
        rcases hq with e' | ⟨o', e'⟩
        · rw [e2] at e'; cases e'; exact .inl e3
        · rw [e2] at e'; cases e'; exact .inr ⟨_, e3⟩
      · exact .inr hq
  · rcases qF with hk | ⟨o, e1, _, _⟩
    · exact .inl hk
    · exact .inr fun z => by rw [z, e1] at n; cases n
  · cases q' : F a with
    | none => rfl
    | some o =>
      have nr := notr a n
      by_cases hT : a ∈ E.T
      · obtain ⟨u, hu⟩ := TabG.some (h.x.rel.tb a hT).1
        rw [h2 a fun j x e s => ?_] at n
        · rw [hu] at n; cases n
        · rw [h.fr j x a e s] at q'; cases q'
      · rw [inF a o q' (h.gr.hh a o hT (by rw [Hm_ne nr]; exact q'))] at n
        cases n
theorem OutW.of {D : Ends} {o : Out} {F2 : Hp} (h : RelWS E K i r q ns S0 F env σ S H) (h2 : ∀ b, (∀ (j : Nat) (x : DV), env[j]? = some (some (true, x)) → σ[j]? ≠ some (some (V.ref b))) → F2 b = H b) (hi : match o with | .nx env' => env'[i]? = env[i]? | .rt _ => True)
    (k : OutW E K i r q ns S0 F D o) : OutOk E S F2 D o := by
  cases o with
  | nx env' =>
    intro σ' S' H' r'
    obtain ⟨g, row, n, scr, no, fr⟩ := h.of h2 r'.gr
    exact k σ' S' H' ⟨⟨r'.rel, row, n, fun j x a e s => no a (r'.fr j x a e s), hi.trans h.x.rv, scr, h.x.len⟩, g, fun j x a e s => fr a (r'.fr j x a e s)⟩
  | rt x =>
    intro v S' H' g hv
    obtain ⟨g, row, n, scr, no, fr⟩ := h.of h2 g
    exact k v S' H' g row n hv
theorem sw_fd (h : PS X st (tS E g)) : PS X st (tW E K i (wE i g)) := h.imp fun D σ H ⟨r, q, ns, S0, F, S, env, Qo, rel, ⟨o, eo, hi, qo⟩, k⟩ => by
  obtain ⟨F2, r2, h2, _⟩ := rel.fd
  exact ⟨S, F2, S, env, o, r2, eo, OutW.of rel h2 hi (k o qo)⟩
theorem sw_fds (h : PSs X rest (tS E g)) : PSs X rest (tW E K i (wE i g)) := h.imp fun D σ H ⟨r, q, ns, S0, F, S, env, Qo, rel, ⟨o, eo, hi, qo⟩, k⟩ => by
  obtain ⟨F2, r2, h2, _⟩ := rel.fd
  exact ⟨S, F2, S, env, o, r2, eo, OutW.of rel h2 hi (k o qo)⟩
def wSeq (Wa Wb : Ws) : Ws := fun env Q => Wa env fun o => match o with
  | .nx e => Wb e Q
  | .rt x => Q (.rt x)
theorem sw_cons (h1 : PS X st (tW E K i Wa)) (h2 : PSs X rest (tW E K i Wb)) : PSs X (st :: rest) (tW E K i (wSeq Wa Wb)) :=
  (pss_cons h1 h2).imp fun D σ H ⟨r, q, ns, S0, F, S, env, Qo, rel, w, k⟩ => by
    refine ⟨r, q, ns, S0, F, S, env, _, rel, w, fun o ho => ?_⟩
    cases o with
    | nx e => exact fun σ' S' H' r' => ⟨r, q, ns, S0, F, S', e, Qo, r', ho, k⟩
    | rt x => exact k _ ho
theorem sw_one (h1 : PS X st (tW E K i Wa)) : PSs X [st] (tW E K i Wa) := pss_one h1
def wClr (vs : List Nat) (Wa : Ws) : Ws := fun env Q => Wa env fun o => match o with
  | .nx e => Q (.nx (wipeD e vs))
  | .rt x => Q (.rt x)
theorem RelWS.forget (h : RelWS E K i r q ns S0 F env σ S H) (vs : List Nat) (hv : i ∉ vs) : RelWS E K i r q ns S0 F (wipeD env vs) σ S H :=
  ⟨⟨h.x.rel.forget vs, h.x.row, h.x.nS, fun j x a e s => h.x.no j x a (wipeD_some e).1 s, by
    have : ∀ ws : List Nat, i ∉ ws → (wipeD env ws)[i]? = env[i]? := fun ws => by
      induction ws with
      | nil => intro _; rfl
      | cons w ws ih =>
        intro hn
        simp only [List.mem_cons, not_or] at hn
        show ((wipeD env ws).set w none)[i]? = _
        rw [List.getElem?_set_ne (Ne.symm hn.1)]
        exact ih hn.2
    rw [this vs hv]; exact h.x.rv, h.x.scr, h.x.len⟩, h.gr, fun j x a e s => h.fr j x a (wipeD_some e).1 s⟩
theorem sw_clr (vs : List Nat) (hv : i ∉ vs) (h : PSs X rest (tW E K i Wa)) : PSs X rest (tW E K i (wClr vs Wa)) := h.imp fun D σ H ⟨r, q, ns, S0, F, S, env, Qo, rel, w, k⟩ => by
  refine ⟨r, q, ns, S0, F, S, env, _, rel, w, fun o ho => ?_⟩
  cases o with
  | nx e => exact fun σ' S' H' r' => k _ ho σ' S' H' (r'.forget vs hv)
  | rt x => exact k _ ho
/-- name = e, e of the row -/
def wSet (j : Nat) (W : Wx) : Ws := fun env Q => W env fun x => Q (.nx (env.set j (some (false, x))))
theorem RelWS.grow (h : RelWS E K i r q ns S0 F env σ S H) (g : GrowR E.T r S H S' H') (row : RowG H' r q) (n : S' r = none) : RelWS E K i r q ns S0 F env σ S' H' :=
  ⟨h.x.grow g row n, h.gr.trans g, h.fr⟩
theorem RelWS.set (h : RelWS E K i r q ns S0 F env σ S H) (hij : i ≠ j) {v : V} {x : DV} (hv : Dn E S v x) : RelWS E K i r q ns S0 F (env.set j (some (false, x))) (σ.set j (some v)) S H :=
  ⟨⟨h.x.rel.set j hv, h.x.row, h.x.nS, fun l y a e s => by
    rcases set_get e with ⟨rfl, e, hl⟩ | ⟨n, e⟩
    · cases e
    · rw [List.getElem?_set_ne n] at s
      exact h.x.no l y a e s, by rw [List.getElem?_set_ne (Ne.symm hij)]; exact h.x.rv, h.x.scr, h.x.len⟩, h.gr, fun l y a e s => by
    rcases set_get e with ⟨rfl, e, hl⟩ | ⟨n, e⟩
    · cases e
    · rw [List.getElem?_set_ne n] at s
      exact h.fr l y a e s⟩
theorem sw_set {y : Str} {pos' : Pos} (hij : i ≠ j) (hN : X.N.Nodup) (hi : X.N[j]? = some y) (hx : Loc X.env.scope y) (he : PE X a (tX E K i .val W)) (hf : X.fn y = true ∨ X.env.scope.names.lookup y = some .local)
    (hs : swapsWith a (some (.Name y pos')) pos.line X.env = pure false := by rfl) : PS X (.Assign [.Name y pos'] a pos) (tW E K i (wSet j W)) :=
  (ps_set hN hi hx he hs hf).imp fun D σ H ⟨r, q, ns, S0, F, S, env, Qo, rel, w, k⟩ =>
    ⟨r, q, ns, S, env, _, rel.x, w, fun x hx v S' H' g row n hv => k _ hx _ S' H' ((rel.grow g row n).set hij hv)⟩
def wRet (W : Wx) : Ws := fun env Q => W env fun x => Q (.rt x)
theorem sw_ret (he : PE X a (tX E K i .val W)) : PS X (.Return (some a) pos) (tW E K i (wRet W)) :=
  (ps_ret he).imp fun D σ H ⟨r, q, ns, S0, F, S, env, Qo, rel, w, k⟩ =>
    ⟨r, q, ns, S, env, _, rel.x, w, fun x hx v S' H' g row n hv => k _ hx v S' H' (rel.gr.trans g) row n hv⟩
/-- a, b = e, f -/
def wPar (j l : Nat) (W1 W2 : Wx) : Ws := fun env Q => W1 env fun x => W2 env fun y => Q (.nx ((env.set j (some (false, x))).set l (some (false, y))))
theorem sw_par {l : Nat} {x y : Str} {px py pt : Pos} {kt k2 pt2} (hij : i ≠ j) (hil : i ≠ l) (hc : X.calm = true) (hN : X.N.Nodup) (hi : X.N[j]? = some x) (hj : X.N[l]? = some y) (hjl : j ≠ l)
    (hx : X.env.scope.names.lookup x = some .local) (hy : X.env.scope.names.lookup y = some .local) (ha : PE X a (tX E K i .val W1)) (hb : PE X b (tX E K i .val W2))
    (hw : swappedStores [.Tuple [.Name x px, .Name y py] kt pt] (.Tuple [a, b] k2 pt2) X.env = pure (some [x, y]))
    (h1 : starEach [a, b] X.env = (false, eval a X.env) :: starEach [b] X.env := by rfl) (h2 : starEach [b] X.env = (false, eval b X.env) :: starEach [] X.env := by rfl)
    (hs : swapsWithSole [.Tuple [.Name x px, .Name y py] kt pt] (.Tuple [a, b] k2 pt2) pos.line X.env = pure false := by rfl) :
    PS X (.Assign [.Tuple [.Name x px, .Name y py] kt pt] (.Tuple [a, b] k2 pt2) pos) (tW E K i (wPar j l W1 W2)) :=
  (ps_par hc hN hi hj hjl hx hy (pa_cons ha (pa_cons hb pa_nil h2) h1) hw hs).imp fun D σ H ⟨r, q, ns, S0, F, S, env, Qo, rel, w, k⟩ => by
    refine ⟨r, q, ns, S, env, _, rel.x, w, fun x hx v S1 H1 g1 row1 n1 hv => ?_⟩
    have r1 := rel.grow g1 row1 n1
    refine ⟨r, q, ns, S1, env, _, r1.x, hx, fun y hy u S2 H2 g2 row2 n2 hu => ⟨v, u, rfl, k _ hy _ S2 H2 ?_⟩⟩
    exact ((r1.grow g2 row2 n2).set hij (Dn.sub g2.ss hv)).set hil hu
/-! for -/
def forW (gt : PyData → DE → Option DE) (Wa : Ws) : List PyData → Ws
  | [], env, Q => Q (.nx env)
  | d :: ds, env, Q => ∃ e1, gt d env = some e1 ∧ Wa e1 fun o => match o with
    | .nx e2 => forW gt Wa ds e2 Q
    | .rt x => Q (.rt x)
def wFor (fi : DE → Option (List PyData)) (j : Nat) (Wa : Ws) : Ws := fun env Q => ∃ ds, fi env = some ds ∧ forW (gtN j) Wa ds env Q
theorem sw_for {iter : Expr} {body : List Stmt} {fi : DE → Option (List PyData)} (hij : i ≠ j) (hp : PassesOwn (model X.prog X.w) X.A X.env X.xe) (hc : X.calm = true) (hi : PI X tg iter (tI E fi)) (hg : PG X tg (tG E [j] (gtN j))) (hb : PSs X body (tW E K i Wa))
    (hs : ∀ x, foldedSetIterable iter X.env x = pure x := by intro _; rfl) : PS X (.For tg iter body [] pos) (tW E K i (wFor fi j Wa)) :=
  (ps_for hp hc hi hg hb hs).imp fun D σ H ⟨r, q, ns, S0, F, S, env, Qo, rel, ⟨ds, eds, w⟩, k⟩ => by
    refine ⟨S, env, ds, rel.x.rel, eds, fun J S1 H1 g1 it => ?_⟩
    have dr : ∀ {i : Nat} {d : PyData}, ds[i]? = some d → ds.drop i = d :: ds.drop (i + 1) := fun {i d} e => by
      obtain ⟨h1, h2⟩ := List.getElem?_eq_some_iff.mp e
      rw [List.drop_eq_getElem_cons h1, h2]
    have rel1 : RelWS E K i r q ns S0 F env σ S1 H1 := rel.grow (GrowR.of g1) (RowG.keepP rel.x g1).1 (RowG.keepP rel.x g1).2
    refine ⟨fun t m σ3 H3 => m = ds.length - t ∧ t ≤ ds.length ∧ ∃ S3 env3, Sub S1 S3 ∧ RelWS E K i r q ns S0 F env3 σ3 S3 H3 ∧ forW (gtN j) Wa (ds.drop t) env3 Qo,
      ⟨ds.length, by rw [Nat.sub_zero], Nat.zero_le _, S1, env, Sub.refl _, rel1, w⟩, ?_⟩
    rintro t m σ3 H3 ⟨rfl, hle, S3, env3, ss3, r3, hgo⟩
    have it3 := it S3 H3 ss3 r3.x.rel.sh r3.x.rel.tb t
    by_cases hlt : t < ds.length
    · have ed : ds[t]? = some ds[t] := List.getElem?_eq_getElem hlt
      obtain ⟨go, yl⟩ := it3.1 _ ed
      refine .inr ⟨go, fun σ' H' => ∃ S3 env3, Sub S1 S3 ∧ RelWS E K i r q ns S0 F env3 σ' S3 H' ∧ forW (gtN j) Wa (ds.drop (t + 1)) env3 Qo,
        fun σ' H' z => ⟨ds.length - (t + 1), by omega, rfl, by omega, z⟩, fun x H4 y => ?_⟩
      obtain ⟨S4, g4, hx⟩ := yl x H4 y
      rw [dr ed] at hgo
      unfold forW at hgo
      obtain ⟨e1, ege, hgo⟩ := hgo
      have r4 : RelWS E K i r q ns S0 F env3 σ3 S4 H4 := r3.grow (GrowR.of g4) (RowG.keepP r3.x g4).1 (RowG.keepP r3.x g4).2
      cases ege
      refine ⟨S4, env3, ds[t], _, r4.x.rel, hx, rfl, fun σ' st r5 => ?_⟩
      have r6 : RelWS E K i r q ns S4 F (env3.set j (some (false, .dat ds[t]))) σ' S4 H4 := ⟨⟨r5, r4.x.row, r4.x.nS, fun l y a e s => by
        obtain ⟨e1, s1⟩ := st.own l y e
        exact r4.x.no l y a e1 (s1.symm.trans s), by rw [List.getElem?_set_ne (Ne.symm hij)]; exact r4.x.rv, r4.x.scr, r4.x.len⟩, ⟨Sub.refl _, r4.gr.sh, r4.gr.hh, fun _ _ _ n => n, r4.gr.tb⟩, fun l y a e s => by
        obtain ⟨e1, s1⟩ := st.own l y e
        exact r4.fr l y a e1 (s1.symm.trans s)⟩
      have un : ∀ {S' H' : Hp}, GrowR E.T r S4 F S' H' → GrowR E.T r S0 F S' H' := fun g => Grow.unbase r4.gr g
      refine ⟨r, q, ns, S4, F, S4, _, _, r6, hgo, fun o ho => ?_⟩
      cases o with
      | nx e2 => exact fun σ'' S'' H'' r7 => ⟨S'', e2, (ss3.trans g4.ss).trans r7.gr.ss, ⟨r7.x, un r7.gr, r7.fr⟩, ho⟩
      | rt x => exact fun v S'' H'' g row n hv => k _ ho v S'' H'' (un g) row n hv
    · have et : t = ds.length := by omega
      subst et
      rw [List.drop_length] at hgo
      exact .inl ⟨it3.2 (Nat.le_refl _), k _ hgo σ3 S3 H3 r3⟩
/-! ### a def -/
def fnW (n : Nat) (Wa : Ws) : Wf := fun xs Q => ∀ r : Addr, Wa (startD n (.adr r :: xs)) fun o => match o with
  | .rt x => Q x
  | .nx _ => Q (.dat .none)
theorem fn_bodyW {N : List Str} {n : Nat} (hn : 0 < N.length) (vs : List V) (H : Hp) (Q : VK) (Ex : XK) (h : spX E K n (fnW N.length Wa) vs H Q Ex) : tW E K 0 Wa { nx := fun _ H' => Q .non H', rt := Q } (L2.start N vs) H := by
  obtain ⟨r, q, ns, S, vs', xs, Qd, rfl, sh, tb, hd, hl, row, nS, scr, len, w, k⟩ := h
  have rs := start_rel (E := E) (N := N) sh tb (DnAll.cons (show Dn E S (.ref r) (.adr r) from rfl) hd)
  have no : ∀ (j : Nat) (x : DV) (b : Bool), (startD N.length (.adr r :: xs))[j]? = some (some (b, x)) → b = false := fun j x b e => by
    unfold startD at e
    rw [List.getElem?_append] at e
    split at e
    · rw [List.getElem?_map] at e
      obtain ⟨y, _, e2⟩ := Option.map_eq_some_iff.mp e
      cases e2; rfl
    · obtain ⟨h1, h2⟩ := List.getElem?_eq_some_iff.mp e
      rw [List.getElem_replicate] at h2
      cases h2
  refine ⟨r, q, ns, S, H, S, _, _, ⟨⟨rs.rel, row, nS, fun j x a e => absurd (no j x true e) (by decide), rfl, scr, len⟩, GrowR.of rs.gr, fun j x a e => absurd (no j x true e) (by decide)⟩, w r, fun o ho => ?_⟩
  cases o with
  | nx e => exact fun σ' S' H' r' => k _ ho .non S' H' r'.gr r'.x.row r'.x.nS Dq.non
  | rt x => exact fun v S' H' g row n hv => k _ ho v S' H' g row n hv
end
end FD
end

section
set_option Elab.async false
set_option linter.all false
set_option maxRecDepth 100000
set_option maxHeartbeats 4000000
/-! FD20: _law_taken by hand: a draw lies below its bound, the row stays a row. -/
namespace FD
open PySem PySem.Spec PyProof.Rows L2
section
variable {K : PySem.W.Frag} {σ : L2.St} {H : Hp} {ta tb te to ti : TE} {x y z v : V} {r : R2} {i j k : Nat} {D : Ends} {t u : TS} {c : TT}
def Pv (te : TE) (σ : L2.St) (H : Hp) (v : V) : Prop := ∀ Q : VK, Q v H → te σ H Q
theorem pv_var (h : σ[i]? = some (some v)) : Pv (tVar i) σ H v := fun Q q => ⟨v, h, q⟩
theorem pv_c : Pv (tC v) σ H v := fun Q q => q
theorem pv_op (ha : Pv ta σ H x) (hb : Pv tb σ H y) (hr : ∀ Q : VK, Q z H → r x y H Q) : Pv (tOp r ta tb) σ H z := fun Q q => ha _ (hb _ (hr Q q))
theorem pv_I0 {g : Int → Int → V} {a b : Int} (ha : Pv ta σ H (.int a)) (hb : Pv tb σ H (.int b)) : Pv (tOp (rI0 g) ta tb) σ H (g a b) := pv_op ha hb fun Q q => ⟨a, b, rfl, rfl, q⟩
theorem pv_I {C : Int → Int → Prop} {g : Int → Int → V} {a b : Int} (hc : C a b) (ha : Pv ta σ H (.int a)) (hb : Pv tb σ H (.int b)) : Pv (tOp (rI C g) ta tb) σ H (g a b) := pv_op ha hb fun Q q => ⟨a, b, rfl, rfl, hc, q⟩
theorem pv_ixL {p : Addr} {xs : List V} {a : Int} (ha : Pv ta σ H (.ref p)) (hb : Pv tb σ H (.int a)) (h : SqL K H p xs) (e : L2.atI xs a = some v) : Pv (tOp (rIxL K) ta tb) σ H v := pv_op ha hb fun Q q => ⟨p, xs, a, v, rfl, rfl, h, e, q⟩
theorem pv_int {a : Int} (ha : Pv ta σ H (.int a)) : Pv (tCB (fun xs H Q => (∃ i, xs = [.int i] ∧ Q (.int i) H) ∨ ∃ k, xs = [.bl k] ∧ Q (.int (if k then 1 else 0)) H) (tCons ta tNil)) σ H (.int a) := fun Q q => ha _ (.inl ⟨a, rfl, q⟩)
theorem if_yes {b : Bool} (hb : b = true) (h : Pv te σ H (.bl b)) (q : t D σ H) : tIfS (tTest te) t u D σ H := h _ ⟨b, rfl, by rw [hb]; exact q⟩
theorem if_no {b : Bool} (hb : b = false) (h : Pv te σ H (.bl b)) (q : u D σ H) : tIfS (tTest te) t u D σ H := h _ ⟨b, rfl, by rw [hb]; exact q⟩
theorem as_nm (h : Pv te σ H v) (q : D.nx (σ.set i (some v)) H) : tAsg te (gName i) D σ H := h _ q
theorem as_ix {p : Addr} {xs : List V} {a : Int} {j : Nat} (h : Pv te σ H v) (ho : Pv to σ H (.ref p)) (hi : Pv ti σ H (.int a)) (e : H p = some (.lst xs)) (ej : ixN xs.length a = some j) (q : D.nx σ (upd H p (.lst (xs.set j v)))) : tAsg te (gSub to ti rSetL) D σ H :=
  h _ (ho _ (hi _ ⟨p, xs, a, j, rfl, rfl, e, ej, q⟩))
theorem re_t (h : Pv te σ H v) (q : D.rt v H) : tRet te D σ H := h _ q
end
def W_taken : Wf := fun xs Q => ∃ n : Int, xs = [.dat (.int n)] ∧ 0 < n ∧ n < 1073741824 ∧ ∀ d : Int, 0 ≤ d → d < n → Q (.dat (.int d))
end FD
namespace K08
open PySem PySem.Spec PyProof.Rows L2 FD
variable {P : Program} {w : World} {K : PySem.W.Frag} {mg : Str → Option Value} {base : Heap} {fd : FuncData} {T : List Addr}
theorem sc_ltaken : FnScope ["_law_row", "_law_many", "_law_found", "_law_cell"] ["_law_row", "_law_many"] (defScope (top 44)) := ⟨by rfl, by rfl, by rfl, by decide +kernel, by rfl, by decide +kernel, by decide +kernel⟩
theorem ok_ltaken (M : MF mg) (F : FunD K "_law_taken" "_law_taken" (defArgs (top 44)) (defBody (top 44)) (defScope (top 44)) [] [] (He.fAd K ("_law_taken", none)) fd) (hm : mg "_law_taken" = some (.ref (He.fAd K ("_law_taken", none)))) : C8.Cal P w K mg base 4 "_law_taken" (spX ⟨P, w, T⟩ K 1 W_taken) [] := by
  refine cal_of (k := 3) (N := ["_law_row", "_law_many", "_law_found", "_law_cell"]) (ps := ["_law_row", "_law_many"]) F hm sc_ltaken (fun vs H Q E h => spX_len vs H Q E h) (fun _ _ _ _ _ _ us hl => match us, hl with | [_, _], _ => rfl) (fun A outer s H vs Q E hr h => ⟨_,
    pss_cons (ps_if (pt_cmpR op_gt (pe_ix ix_list (pe_var (i := 0) (by rfl) (.inl rfl)) pe_int (fun _ _ => rfl)) pe_int (nomark _))
      (pss_cons (ps_set (i := 2) sc_ltaken.nd (by rfl) (.inl rfl) (pe_op op_modN (pe_callTy call_int1 (by rfl) M.int PyProof.Rows.boot_int (pa_cons (pe_ix ix_list (pe_var (i := 0) (by rfl) (.inl rfl)) pe_int (fun _ _ => rfl)) pa_nil)) (pe_var (i := 1) (by rfl) (.inl rfl))))
      (pss_cons (ps_asg (pe_op op_fdivN (pe_ix ix_list (pe_var (i := 0) (by rfl) (.inl rfl)) pe_int (fun _ _ => rfl)) (pe_var (i := 1) (by rfl) (.inl rfl))) (pg_sub (pe_var (i := 0) (by rfl) (.inl rfl)) pe_int set_list))
      (pss_cons (ps_ret (pe_var (i := 2) (by rfl) (.inl rfl))) pss_nil))) pss_nil)
    (pss_cons (ps_asg (pe_op op_add (pe_ix ix_list (pe_var (i := 0) (by rfl) (.inl rfl)) pe_int (fun _ _ => rfl)) pe_int) (pg_sub (pe_var (i := 0) (by rfl) (.inl rfl)) pe_int set_list))
    (pss_cons (ps_if (pt_cmpR op_gt (pe_ix ix_list (pe_var (i := 0) (by rfl) (.inl rfl)) pe_int (fun _ _ => rfl)) (pe_callB call_len (by rfl) M.len boot_len (pa_cons (pe_ix ix_list (pe_var (i := 0) (by rfl) (.inl rfl)) pe_int (fun _ _ => rfl)) pa_nil)) (by first | exact nomark _ | with_unfolding_all rfl))
      (pss_cons (ps_asg (pe_op op_modN (pe_callTy call_int1 (by rfl) M.int PyProof.Rows.boot_int (pa_cons (pe_op op_add (pe_op op_mul (pe_ix ix_list (pe_var (i := 0) (by rfl) (.inl rfl)) pe_int (fun _ _ => rfl)) pe_int) pe_int) pa_nil)) pe_int) (pg_sub (pe_var (i := 0) (by rfl) (.inl rfl)) pe_int set_list))
      (pss_cons (ps_ret (pe_op op_modN (pe_callTy call_int1 (by rfl) M.int PyProof.Rows.boot_int (pa_cons (pe_op op_fdivN (pe_ix ix_list (pe_var (i := 0) (by rfl) (.inl rfl)) pe_int (fun _ _ => rfl)) pe_int) pa_nil)) (pe_var (i := 1) (by rfl) (.inl rfl)))) pss_nil)) pss_nil)
    (pss_cons (ps_set (i := 3) sc_ltaken.nd (by rfl) (.inl rfl) (pe_ix ix_list (pe_ix ix_list (pe_var (i := 0) (by rfl) (.inl rfl)) pe_int (fun _ _ => rfl)) (pe_op op_sub (pe_ix ix_list (pe_var (i := 0) (by rfl) (.inl rfl)) pe_int (fun _ _ => rfl)) pe_int) (fun _ _ => rfl)))
    (pss_cons (ps_asg (pe_op op_modN (pe_callTy call_int1 (by rfl) M.int PyProof.Rows.boot_int (pa_cons (pe_op op_add (pe_op op_add (pe_op op_mul (pe_ix ix_list (pe_var (i := 0) (by rfl) (.inl rfl)) pe_int (fun _ _ => rfl)) pe_int) (pe_var (i := 3) (by rfl) (.inl rfl))) pe_int) pa_nil)) pe_int) (pg_sub (pe_var (i := 0) (by rfl) (.inl rfl)) pe_int set_list))
    (pss_cons (ps_if (pt_cmpR op_ge (pe_var (i := 3) (by rfl) (.inl rfl)) (pe_op op_pow pe_int pe_int) (nomark _))
      (pss_cons (ps_asg (pe_op op_fdivN (pe_var (i := 3) (by rfl) (.inl rfl)) (pe_var (i := 1) (by rfl) (.inl rfl))) (pg_sub (pe_var (i := 0) (by rfl) (.inl rfl)) pe_int set_list)) pss_nil) pss_nil)
    (pss_cons (ps_ret (pe_op op_modN (pe_callTy call_int1 (by rfl) M.int PyProof.Rows.boot_int (pa_cons (pe_var (i := 3) (by rfl) (.inl rfl)) pa_nil)) (pe_var (i := 1) (by rfl) (.inl rfl)))) pss_nil)))))), ?_⟩)
  obtain ⟨r, q, ns, S, vs', xs, Qd, rfl, sh, tb, hd, hl, ⟨p, a, z, hH, h1, h2, h3, h4⟩, nS, scr, len, ⟨n, rfl, hn, hn2, hQ⟩, k⟩ := h
  obtain ⟨_, rfl, hv⟩ : ∃ v, vs' = [v] ∧ Dn ⟨P, w, T⟩ S v (.dat (.int n)) := by
    cases hd with
    | cons h1 h2 => cases h2; exact ⟨_, rfl, h1⟩
  cases hv
  have rT : r ∉ T := notTab (fun P hP => (tb P hP).1) hH (fun ps => nofun)
  have e0 : (L2.start ["_law_row", "_law_many", "_law_found", "_law_cell"] [V.ref r, V.int n] : L2.St) = [some (.ref r), some (.int n), none, none] := rfl
  rw [e0]
  have hnn : n ≠ 0 := by omega
  have hna : n.natAbs < 1073741824 := by omega
  -- the end: the row is a row still
  have fin : ∀ (p' a' z' d : Int), 0 ≤ p' → 0 ≤ a' → a' < 2147483647 → 0 ≤ z' → 0 ≤ d → d < n → Q (.int d) (upd H r (.lst [.ref q, .int p', .int a', .int z'])) := fun p' a' z' d c1 c2 c3 c4 c5 c6 => by
    refine k _ (hQ d c5 c6) (.int d) S _ ⟨Sub.refl S, fun b o e => ?_, fun b o n e => ?_, fun b o e n => n, fun P' hP' => ?_⟩ ⟨p', a', z', upd_same, c1, c2, c3, c4⟩ nS (Dq.int _)
    · rw [upd_ne fun z => by rw [z, nS] at e; cases e]; exact sh b o e
    · obtain ⟨n1, e1⟩ := Hm_some e
      rw [upd_ne n1]; exact e1
    · obtain ⟨ps, e, rr⟩ := (tb P' hP').1
      have n : P' ≠ r := fun z => rT (z ▸ hP')
      exact ⟨ps, by rw [upd_ne n]; exact e, rr⟩
  have fm : ∀ x : Int, 0 ≤ x.fmod n ∧ x.fmod n < n := fun x => ⟨Int.fmod_nonneg_of_pos x hn, Int.fmod_lt_of_pos x hn⟩
  -- the row as it stands
  have sqr : ∀ {H' : Hp} {xs : List V}, H' r = some (.lst xs) → SqL K H' r xs := fun e => SqL.of e
  have hst : ∀ (p' a' z' : Int), SqL K (upd H r (.lst [.ref q, .int p', .int a', .int z'])) q (ns.map V.int) := fun p' a' z' => by
    rcases scr with ⟨h, n⟩ | h
    · refine .inl ?_
      rcases h with h | ⟨o, h⟩
      · exact .inl (by rw [upd_ne n]; exact h)
      · exact .inr ⟨o, by rw [upd_ne n]; exact h⟩
    · exact .inr h
  by_cases hz : 0 < z
  · refine if_yes (b := decide (0 < z)) (decide_eq_true hz) (pv_I0 (pv_ixL (pv_var rfl) pv_c (sqr hH) rfl) pv_c) ?_
    refine as_nm (pv_I hnn (pv_int (pv_ixL (pv_var rfl) pv_c (sqr hH) rfl)) (pv_var rfl)) ?_
    refine as_ix (pv_I ⟨hnn, hna⟩ (pv_ixL (pv_var rfl) pv_c (sqr hH) rfl) (pv_var rfl)) (pv_var rfl) pv_c hH (j := 3) rfl ?_
    refine re_t (pv_var rfl) ?_
    exact fin p a (z.fdiv n) (z.fmod n) h1 h2 h3 (Int.fdiv_nonneg (by omega) (by omega)) (fm z).1 (fm z).2
  · refine if_no (b := decide (0 < z)) (decide_eq_false hz) (pv_I0 (pv_ixL (pv_var rfl) pv_c (sqr hH) rfl) pv_c) ?_
    show tSeq _ _ _ _ _
    refine as_ix (pv_I0 (pv_ixL (pv_var rfl) pv_c (sqr hH) rfl) pv_c) (pv_var rfl) pv_c hH (j := 1) rfl ?_
    show tSeq _ _ _ _ _
    have eH : upd H r (.lst ([V.ref q, .int p, .int a, .int z].set 1 (.int (p + 1)))) = upd H r (.lst [.ref q, .int (p + 1), .int a, .int z]) := rfl
    rw [eH]
    have hr1 : (upd H r (.lst [.ref q, .int (p + 1), .int a, .int z])) r = some (.lst [.ref q, .int (p + 1), .int a, .int z]) := upd_same
    have hq1 := hst (p + 1) a z
    have pl : Pv (tCB (fun xs H Q => ∃ x n, xs = [x] ∧ LenV K x H n ∧ Q (.int n) H) (tCons (tOp (rIxL K) (tVar 0) (tC (.int 0))) tNil)) [some (.ref r), some (.int n), none, none] (upd H r (.lst [.ref q, .int (p + 1), .int a, .int z])) (.int (ns.length : Int)) := fun Q hQ => by
      refine pv_ixL (pv_var rfl) pv_c (sqr hr1) rfl _ ⟨.ref q, (ns.map V.int).length, rfl, Or.inl ⟨_, hq1, rfl⟩, ?_⟩
      rw [List.length_map]; exact hQ
    by_cases hp : (ns.length : Int) < p + 1
    · refine if_yes (b := decide ((ns.length : Int) < p + 1)) (decide_eq_true hp) (pv_I0 (g := fun i j => .bl (decide (j < i))) (pv_ixL (pv_var rfl) pv_c (sqr hr1) rfl) pl) ?_
      refine as_ix (v := (.int ((a * 48271 + 11).fmod 2147483647))) ?h1 (pv_var rfl) pv_c hr1 (j := 2) rfl ?_
      case h1 => exact (pv_I (C := fun _ j => j ≠ 0) (by decide) (pv_int (pv_I0 (pv_I (C := CMul) (Or.inl ⟨by omega, by omega⟩) (pv_ixL (pv_var rfl) pv_c (sqr hr1) rfl) pv_c) pv_c)) pv_c)
      rw [upd_upd]
      dsimp only
      unfold tSeq
      dsimp only
      refine re_t (v := .int ((((a * 48271 + 11).fmod 2147483647).fdiv 7).fmod n)) ?h2 ?_
      case h2 => exact pv_I hnn (pv_int (pv_I (C := CDivN) ⟨by decide, by decide⟩ (pv_ixL (pv_var rfl) pv_c (sqr upd_same) rfl) pv_c)) (pv_var rfl)
      exact fin (p + 1) _ z _ (by omega) (Int.fmod_nonneg_of_pos _ (by decide)) (Int.fmod_lt_of_pos _ (by decide)) h4 (fm _).1 (fm _).2
    · refine if_no (b := decide ((ns.length : Int) < p + 1)) (decide_eq_false hp) (pv_I0 (g := fun i j => .bl (decide (j < i))) (pv_ixL (pv_var rfl) pv_c (sqr hr1) rfl) pl) ?_
      show tSeq _ _ _ _ _
      obtain ⟨j, rfl⟩ := Int.eq_ofNat_of_zero_le h1
      have hj : j < ns.length := by omega
      have ha : L2.atI (ns.map V.int) ((j : Int) + 1 - 1) = some (V.int ns[j]) := by
        have e : ((j : Int) + 1 - 1) = (j : Int) := by omega
        rw [e]
        unfold L2.atI ixN
        rw [if_pos (by omega), if_pos (by rw [List.length_map]; omega)]
        simp [hj]
      generalize ns[j] = cc at ha
      refine as_nm (v := .int cc) (pv_ixL (pv_ixL (pv_var rfl) pv_c (sqr hr1) rfl) (pv_I0 (pv_ixL (pv_var rfl) pv_c (sqr hr1) rfl) pv_c) hq1 ha) ?_
      dsimp only
      unfold tSeq
      dsimp only
      refine as_ix (v := (.int ((a * 48271 + cc + 11).fmod 2147483647))) ?h1 (pv_var rfl) pv_c hr1 (j := 2) rfl ?_
      case h1 => exact (pv_I (C := fun _ j => j ≠ 0) (by decide) (pv_int (pv_I0 (pv_I0 (pv_I (C := CMul) (Or.inl ⟨by omega, by omega⟩) (pv_ixL (pv_var rfl) pv_c (sqr hr1) rfl) pv_c) (pv_var rfl)) pv_c)) pv_c)
      rw [upd_upd]
      dsimp only
      have b1 : 0 ≤ (a * 48271 + cc + 11).fmod 2147483647 := Int.fmod_nonneg_of_pos _ (by decide)
      have b2 : (a * 48271 + cc + 11).fmod 2147483647 < 2147483647 := Int.fmod_lt_of_pos _ (by decide)
      by_cases hc : (10 : Int) ^ (18 : Int).toNat ≤ cc
      · refine if_yes (b := decide ((10 : Int) ^ (18 : Int).toNat ≤ cc)) (decide_eq_true hc) ?h3 ?_
        case h3 => exact pv_I0 (g := fun i j => .bl (decide (j ≤ i))) (pv_var rfl) (pv_I (C := CPow) (g := fun i j => .int (i ^ j.toNat)) (a := 10) (b := 18) ⟨by decide, by decide, by decide⟩ pv_c pv_c)
        refine as_ix (pv_I ⟨hnn, hna⟩ (pv_var rfl) (pv_var rfl)) (pv_var rfl) pv_c upd_same (j := 3) rfl ?_
        rw [upd_upd]
        try dsimp only
        try unfold tNext
        try dsimp only
        refine re_t (pv_I hnn (pv_int (pv_var rfl)) (pv_var rfl)) ?_
        have hc0 : 0 ≤ cc := Int.le_trans (by decide) hc
        exact fin _ _ _ _ (by omega) b1 b2 (Int.fdiv_nonneg hc0 (by omega)) (fm _).1 (fm _).2
      · refine if_no (b := decide ((10 : Int) ^ (18 : Int).toNat ≤ cc)) (decide_eq_false hc) ?h3 ?_
        case h3 => exact pv_I0 (g := fun i j => .bl (decide (j ≤ i))) (pv_var rfl) (pv_I (C := CPow) (g := fun i j => .int (i ^ j.toNat)) (a := 10) (b := 18) ⟨by decide, by decide, by decide⟩ pv_c pv_c)
        unfold tNext
        dsimp only
        refine re_t (pv_I hnn (pv_int (pv_var rfl)) (pv_var rfl)) ?_
        exact fin _ _ _ _ (by omega) b1 b2 h4 (fm _).1 (fm _).2
end K08
end

section
set_option Elab.async false
set_option linter.all false
set_option maxRecDepth 100000
set_option maxHeartbeats 4000000
/-! the defs of the linked text as functions of data: printed by gen.py. -/
namespace K08
open PySem PySem.Spec PyProof.Rows L2 FD
variable {P : Program} {w : World} {K : PySem.W.Frag} {mg : Str → Option Value} {base : Heap} {fd : FuncData} {T : List Addr}
/-! ### _law_pick -/
def w__law_pick : Ws := (wSeq (wRet (x2 dIx (xE (eVar 1)) (xC W_taken (aCons (e1 dLen (eVar 1)) aNil)))) (wE 0 sNil))
def W_pick : Wf := fnW 2 w__law_pick
theorem sc__law_pick : FnScope ["_law_row", "_law_things"] ["_law_row", "_law_things"] (defScope (top 45)) := ⟨by rfl, by rfl, by rfl, by decide +kernel, by rfl, by decide +kernel, by decide +kernel⟩
theorem ok__law_pick (M : MF mg) (F : FunD K "_law_pick" "_law_pick" (defArgs (top 45)) (defBody (top 45)) (defScope (top 45)) [] [] (He.fAd K ("_law_pick", none)) fd) (hm : mg "_law_pick" = some (.ref (He.fAd K ("_law_pick", none)))) (c__law_taken : C8.Cal P w K mg base 4 "_law_taken" (spX ⟨P, w, T⟩ K 1 W_taken) []) : C8.Cal P w K mg base 8 "_law_pick" (spX ⟨P, w, T⟩ K 1 W_pick) [] := by
  refine cal_of (k := 7) (N := ["_law_row", "_law_things"]) (ps := ["_law_row", "_law_things"]) F hm sc__law_pick (fun vs H Q E h => spX_len vs H Q E h) (fun _ _ _ _ _ _ us hl => match us, hl with | [_, _], _ => rfl) (fun A outer s H vs Q E hr h => ⟨_, ?_, fn_bodyW (Wa := w__law_pick) (by decide) vs H Q E h⟩)
  exact (sw_cons (sw_ret (rx_ix (IxR.or ix_list ix_tup) step_ix (rx_of (pd_var (i := 1) (by rfl) (by first | exact .inl rfl | exact .inr (.inl rfl) | exact .inr (.inr rfl)))) (rx_call (i := 0) c__law_taken hr (by decide) (by rfl) (by rfl) (by first | exact .inl rfl | exact .inr (.inl rfl) | exact .inr (.inr rfl)) (n := 1) (ad_cons (pd_len M.len (pd_var (i := 1) (by rfl) (by first | exact .inl rfl | exact .inr (.inl rfl) | exact .inr (.inr rfl)))) ad_nil)))) (sw_fds (i := 0) sd_nil))
/-! ### _law_map -/
def w__law_map : Ws := (wSeq (wE 0 (sPar false 6 false 7 (aCons (eLstL lNil) (aCons (eLstL lNil) aNil)))) (wSeq (wE 0 (sFor (iRange (eVar 1)) (gtN 4) (sClr [4] (sSeq (sSet false 6 (e2 dAdd (eVar 6) (eLc [14] (iRange (eVar 2)) (gtN 14) tYesF (eTupL (lCons (eVar 4) (lCons (eVar 14) lNil)))))) sNil)))) (wSeq (wFor (iRange (e2 dSub (eVar 3) (eC (.int 1)))) 5 (wClr [5, 8] (wSeq (wSet 8 (xC W_pick (aCons (eVar 6) aNil))) (wE 0 (sSeq (sPar false 7 false 6 (aCons (e2 dAdd (eVar 7) (eLstL (lCons (eVar 8) lNil))) (aCons (eLc [15] (iSeq (eVar 6)) (gtN 15) (eTru (e2 dNe (eVar 15) (eVar 8))) (eVar 15)) aNil))) sNil))))) (wSeq (wE 0 (sPar false 9 false 10 (aCons (e1 dLRange (eVar 3)) (aCons (eLstL lNil) aNil)))) (wSeq (wFor (iRange (eVar 3)) 5 (wClr [] (wSeq (wSet 8 (xC W_pick (aCons (eVar 9) aNil))) (wE 0 (sSeq (sPar false 10 false 9 (aCons (e2 dAdd (eVar 10) (eLstL (lCons (eVar 8) lNil))) (aCons (eLc [16] (iSeq (eVar 9)) (gtN 16) (eTru (e2 dNe (eVar 16) (eVar 8))) (eVar 16)) aNil))) sNil))))) (wE 0 (sSeq (sPar true 11 false 12 (aCons (eLstL (lCons (e2 dIx (eVar 10) (eC (.int 0))) lNil)) (aCons (eC (.int 1)) aNil))) (sSeq (sFor (iRange (eVar 1)) (gtN 4) (sClr [13, 14] (sSeq (sSet false 13 (e2 dIx (eVar 10) (eC (.int 0)))) (sSeq (sFor (iRange (eVar 2)) (gtN 14) (sClr [14] (sSeq (sIf (eTru (e2 (dIn false) (eTupL (lCons (eVar 4) (lCons (eVar 14) lNil))) (eVar 7))) (sSeq (sPar false 13 false 12 (aCons (e2 dIx (eVar 10) (eVar 12)) (aCons (e2 dAdd (eVar 12) (eC (.int 1))) aNil))) sNil) sNil) (sSeq (sApp 11 (eVar 13)) sNil)))) sNil)))) (sSeq (sRet (eTupL (lCons (eVar 1) (lCons (e1 dTuple (eRd 11)) lNil)))) sNil)))))))))
def W_map : Wf := fnW 17 w__law_map
theorem sc__law_map : FnScope ["_law_row", "_law_arms", "_law_length", "_law_lands", "_law_arm", "_law_turn", "_law_left", "_law_cuts", "_law_one", "_law_names", "_law_order", "_law_cells", "_law_used", "_law_land", "_law_step", "_law_pair", "_law_k"] ["_law_row", "_law_arms", "_law_length", "_law_lands"] (defScope (top 49)) := ⟨by rfl, by rfl, by rfl, by decide +kernel, by rfl, by decide +kernel, by decide +kernel⟩
theorem ok__law_map (M : MF mg) (F : FunD K "_law_map" "_law_map" (defArgs (top 49)) (defBody (top 49)) (defScope (top 49)) [] [] (He.fAd K ("_law_map", none)) fd) (hm : mg "_law_map" = some (.ref (He.fAd K ("_law_map", none)))) (c__law_pick : C8.Cal P w K mg base 8 "_law_pick" (spX ⟨P, w, T⟩ K 1 W_pick) []) : C8.Cal P w K mg base 12 "_law_map" (spX ⟨P, w, T⟩ K 3 W_map) [] := by
  refine cal_of (k := 11) (N := ["_law_row", "_law_arms", "_law_length", "_law_lands", "_law_arm", "_law_turn", "_law_left", "_law_cuts", "_law_one", "_law_names", "_law_order", "_law_cells", "_law_used", "_law_land", "_law_step", "_law_pair", "_law_k"]) (ps := ["_law_row", "_law_arms", "_law_length", "_law_lands"]) F hm sc__law_map (fun vs H Q E h => spX_len vs H Q E h) (fun _ _ _ _ _ _ us hl => match us, hl with | [_, _, _, _], _ => rfl) (fun A outer s H vs Q E hr h => ⟨_, ?_, fn_bodyW (Wa := w__law_map) (by decide) vs H Q E h⟩)
  exact (sw_cons (sw_fd (i := 0) (sd_par false false (i := 6) (j := 7) (by rfl) (by rfl) sc__law_map.nd (by rfl) (by rfl) (by decide) (by rfl) (by rfl) (ad_cons (pd_frz (pd_lstL ld_nil)) (ad_cons (pd_frz (pd_lstL ld_nil)) ad_nil)) (by rfl))) (sw_cons (sw_fd (i := 0) (sd_for PassesOwn.never (by rfl) (id_range M.range (pd_var (i := 1) (by rfl) (by first | exact .inl rfl | exact .inr (.inl rfl) | exact .inr (.inr rfl)))) (gd_name (i := 4) sc__law_map.nd (by rfl) (by first | exact .inl rfl | exact .inr rfl) (by first | exact .inl rfl | exact .inr rfl)) (sd_clr [4] (sd_cons (sd_set false (i := 6) sc__law_map.nd (by rfl) (by first | exact .inl rfl | exact .inr rfl) (pd_add (pd_var (i := 6) (by rfl) (by first | exact .inl rfl | exact .inr (.inl rfl) | exact .inr (.inr rfl))) (pd_frz (pd_lc (by rfl) sc__law_map.nd (id_range M.range (pd_var (i := 2) (by rfl) (by first | exact .inl rfl | exact .inr (.inl rfl) | exact .inr (.inr rfl)))) (own := [(("_law_step" : PySem.Str), 14)]) (blk_of (N := ["_law_row", "_law_arms", "_law_length", "_law_lands", "_law_arm", "_law_turn", "_law_left", "_law_cuts", "_law_one", "_law_names", "_law_order", "_law_cells", "_law_used", "_law_land", "_law_step", "_law_pair", "_law_k"]) (sc := defScope (top 49)) (by decide +kernel)) (by decide) (fun _ _ _ _ _ => (gd_name (i := 14) sc__law_map.nd (by rfl) (by first | exact .inl rfl | exact .inr rfl) (by first | exact .inl rfl | exact .inr rfl))) (fun _ _ _ _ _ => tds_nil) (fun _ _ _ _ _ => (pd_tupL (ld_cons (pd_var (i := 4) (by rfl) (by first | exact .inl rfl | exact .inr (.inl rfl) | exact .inr (.inr rfl))) (ld_cons (pd_var (i := 14) (by rfl) (by first | exact .inl rfl | exact .inr (.inl rfl) | exact .inr (.inr rfl))) ld_nil))))))) (by first | exact .inl rfl | exact .inr rfl)) sd_nil)))) (sw_cons (sw_for (i := 0) (j := 5) (by decide) PassesOwn.never (by rfl) (id_range M.range (pd_sub (pd_var (i := 3) (by rfl) (by first | exact .inl rfl | exact .inr (.inl rfl) | exact .inr (.inr rfl))) pd_int)) (gd_name (i := 5) sc__law_map.nd (by rfl) (by first | exact .inl rfl | exact .inr rfl) (by first | exact .inl rfl | exact .inr rfl)) (sw_clr [5, 8] (by decide) (sw_cons (sw_set (i := 0) (j := 8) (by decide) sc__law_map.nd (by rfl) (by first | exact .inl rfl | exact .inr rfl) (rx_call (i := 0) c__law_pick hr (by decide) (by rfl) (by rfl) (by first | exact .inl rfl | exact .inr (.inl rfl) | exact .inr (.inr rfl)) (n := 1) (ad_cons (pd_var (i := 6) (by rfl) (by first | exact .inl rfl | exact .inr (.inl rfl) | exact .inr (.inr rfl))) ad_nil)) (by first | exact .inl rfl | exact .inr rfl)) (sw_fds (i := 0) (sd_cons (sd_par false false (i := 7) (j := 6) (by rfl) (by rfl) sc__law_map.nd (by rfl) (by rfl) (by decide) (by rfl) (by rfl) (ad_cons (pd_add (pd_var (i := 7) (by rfl) (by first | exact .inl rfl | exact .inr (.inl rfl) | exact .inr (.inr rfl))) (pd_frz (pd_lstL (ld_cons (pd_var (i := 8) (by rfl) (by first | exact .inl rfl | exact .inr (.inl rfl) | exact .inr (.inr rfl))) ld_nil)))) (ad_cons (pd_frz (pd_lc (by rfl) sc__law_map.nd (id_seq (pd_var (i := 6) (by rfl) (by first | exact .inl rfl | exact .inr (.inl rfl) | exact .inr (.inr rfl)))) (own := [(("_law_pair" : PySem.Str), 15)]) (blk_of (N := ["_law_row", "_law_arms", "_law_length", "_law_lands", "_law_arm", "_law_turn", "_law_left", "_law_cuts", "_law_one", "_law_names", "_law_order", "_law_cells", "_law_used", "_law_land", "_law_step", "_law_pair", "_law_k"]) (sc := defScope (top 49)) (by decide +kernel)) (by decide) (fun _ _ _ _ _ => (gd_name (i := 15) sc__law_map.nd (by rfl) (by first | exact .inl rfl | exact .inr rfl) (by first | exact .inl rfl | exact .inr rfl))) (fun _ _ _ _ _ => tds_one (td_c (c_ne hr) (pd_var (i := 15) (by rfl) (by first | exact .inl rfl | exact .inr (.inl rfl) | exact .inr (.inr rfl))) (pd_var (i := 8) (by rfl) (by first | exact .inl rfl | exact .inr (.inl rfl) | exact .inr (.inr rfl))))) (fun _ _ _ _ _ => (pd_var (i := 15) (by rfl) (by first | exact .inl rfl | exact .inr (.inl rfl) | exact .inr (.inr rfl)))))) ad_nil)) (by rfl)) sd_nil))))) (sw_cons (sw_fd (i := 0) (sd_par false false (i := 9) (j := 10) (by rfl) (by rfl) sc__law_map.nd (by rfl) (by rfl) (by decide) (by rfl) (by rfl) (ad_cons (pd_frz (pd_lrange (by rfl) M.list M.range (pd_var (i := 3) (by rfl) (by first | exact .inl rfl | exact .inr (.inl rfl) | exact .inr (.inr rfl))))) (ad_cons (pd_frz (pd_lstL ld_nil)) ad_nil)) (by rfl))) (sw_cons (sw_for (i := 0) (j := 5) (by decide) PassesOwn.never (by rfl) (id_range M.range (pd_var (i := 3) (by rfl) (by first | exact .inl rfl | exact .inr (.inl rfl) | exact .inr (.inr rfl)))) (gd_name (i := 5) sc__law_map.nd (by rfl) (by first | exact .inl rfl | exact .inr rfl) (by first | exact .inl rfl | exact .inr rfl)) (sw_clr [] (by decide) (sw_cons (sw_set (i := 0) (j := 8) (by decide) sc__law_map.nd (by rfl) (by first | exact .inl rfl | exact .inr rfl) (rx_call (i := 0) c__law_pick hr (by decide) (by rfl) (by rfl) (by first | exact .inl rfl | exact .inr (.inl rfl) | exact .inr (.inr rfl)) (n := 1) (ad_cons (pd_var (i := 9) (by rfl) (by first | exact .inl rfl | exact .inr (.inl rfl) | exact .inr (.inr rfl))) ad_nil)) (by first | exact .inl rfl | exact .inr rfl)) (sw_fds (i := 0) (sd_cons (sd_par false false (i := 10) (j := 9) (by rfl) (by rfl) sc__law_map.nd (by rfl) (by rfl) (by decide) (by rfl) (by rfl) (ad_cons (pd_add (pd_var (i := 10) (by rfl) (by first | exact .inl rfl | exact .inr (.inl rfl) | exact .inr (.inr rfl))) (pd_frz (pd_lstL (ld_cons (pd_var (i := 8) (by rfl) (by first | exact .inl rfl | exact .inr (.inl rfl) | exact .inr (.inr rfl))) ld_nil)))) (ad_cons (pd_frz (pd_lc (by rfl) sc__law_map.nd (id_seq (pd_var (i := 9) (by rfl) (by first | exact .inl rfl | exact .inr (.inl rfl) | exact .inr (.inr rfl)))) (own := [(("_law_k" : PySem.Str), 16)]) (blk_of (N := ["_law_row", "_law_arms", "_law_length", "_law_lands", "_law_arm", "_law_turn", "_law_left", "_law_cuts", "_law_one", "_law_names", "_law_order", "_law_cells", "_law_used", "_law_land", "_law_step", "_law_pair", "_law_k"]) (sc := defScope (top 49)) (by decide +kernel)) (by decide) (fun _ _ _ _ _ => (gd_name (i := 16) sc__law_map.nd (by rfl) (by first | exact .inl rfl | exact .inr rfl) (by first | exact .inl rfl | exact .inr rfl))) (fun _ _ _ _ _ => tds_one (td_c (c_ne hr) (pd_var (i := 16) (by rfl) (by first | exact .inl rfl | exact .inr (.inl rfl) | exact .inr (.inr rfl))) (pd_var (i := 8) (by rfl) (by first | exact .inl rfl | exact .inr (.inl rfl) | exact .inr (.inr rfl))))) (fun _ _ _ _ _ => (pd_var (i := 16) (by rfl) (by first | exact .inl rfl | exact .inr (.inl rfl) | exact .inr (.inr rfl)))))) ad_nil)) (by rfl)) sd_nil))))) (sw_fds (i := 0) (sd_cons (sd_par true false (i := 11) (j := 12) (by rfl) (by rfl) sc__law_map.nd (by rfl) (by rfl) (by decide) (by rfl) (by rfl) (ad_cons (pd_lstL (ld_cons (pd_item (pd_var (i := 10) (by rfl) (by first | exact .inl rfl | exact .inr (.inl rfl) | exact .inr (.inr rfl))) pd_int) ld_nil)) (ad_cons pd_int ad_nil)) (by rfl)) (sd_cons (sd_for PassesOwn.never (by rfl) (id_range M.range (pd_var (i := 1) (by rfl) (by first | exact .inl rfl | exact .inr (.inl rfl) | exact .inr (.inr rfl)))) (gd_name (i := 4) sc__law_map.nd (by rfl) (by first | exact .inl rfl | exact .inr rfl) (by first | exact .inl rfl | exact .inr rfl)) (sd_clr [13, 14] (sd_cons (sd_set false (i := 13) sc__law_map.nd (by rfl) (by first | exact .inl rfl | exact .inr rfl) (pd_item (pd_var (i := 10) (by rfl) (by first | exact .inl rfl | exact .inr (.inl rfl) | exact .inr (.inr rfl))) pd_int) (by first | exact .inl rfl | exact .inr rfl)) (sd_cons (sd_for PassesOwn.never (by rfl) (id_range M.range (pd_var (i := 2) (by rfl) (by first | exact .inl rfl | exact .inr (.inl rfl) | exact .inr (.inr rfl)))) (gd_name (i := 14) sc__law_map.nd (by rfl) (by first | exact .inl rfl | exact .inr rfl) (by first | exact .inl rfl | exact .inr rfl)) (sd_clr [14] (sd_cons (sd_if (td_c (c_in hr) (pd_tupL (ld_cons (pd_var (i := 4) (by rfl) (by first | exact .inl rfl | exact .inr (.inl rfl) | exact .inr (.inr rfl))) (ld_cons (pd_var (i := 14) (by rfl) (by first | exact .inl rfl | exact .inr (.inl rfl) | exact .inr (.inr rfl))) ld_nil))) (pd_var (i := 7) (by rfl) (by first | exact .inl rfl | exact .inr (.inl rfl) | exact .inr (.inr rfl)))) (sd_cons (sd_par false false (i := 13) (j := 12) (by rfl) (by rfl) sc__law_map.nd (by rfl) (by rfl) (by decide) (by rfl) (by rfl) (ad_cons (pd_item (pd_var (i := 10) (by rfl) (by first | exact .inl rfl | exact .inr (.inl rfl) | exact .inr (.inr rfl))) (pd_var (i := 12) (by rfl) (by first | exact .inl rfl | exact .inr (.inl rfl) | exact .inr (.inr rfl)))) (ad_cons (pd_add (pd_var (i := 12) (by rfl) (by first | exact .inl rfl | exact .inr (.inl rfl) | exact .inr (.inr rfl))) pd_int) ad_nil)) (by rfl)) sd_nil) sd_nil) (sd_cons (sd_app (i := 11) (by rfl) (by first | exact .inl rfl | exact .inr (.inl rfl) | exact .inr (.inr rfl)) (pd_var (i := 13) (by rfl) (by first | exact .inl rfl | exact .inr (.inl rfl) | exact .inr (.inr rfl)))) sd_nil)))) sd_nil)))) (sd_cons (sd_ret (pd_tupL (ld_cons (pd_var (i := 1) (by rfl) (by first | exact .inl rfl | exact .inr (.inl rfl) | exact .inr (.inr rfl))) (ld_cons (pd_totuple M.tuple (pd_rdv (i := 11) (by rfl) (by first | exact .inl rfl | exact .inr (.inl rfl) | exact .inr (.inr rfl)))) ld_nil)))) sd_nil)))))))))
/-! ### _law_table -/
def w__law_table : Ws := (wSeq (wRet (x1 dTuple (xLc 3 (iRange (eVar 1)) (x1 dTuple (xLc 4 (iRange (eVar 2)) (x2 dSub (xC W_taken (aCons (eC (.int 17)) aNil)) (xE (eC (.int 8))))))))) (wE 0 sNil))
def W_table : Wf := fnW 5 w__law_table
theorem sc__law_table : FnScope ["_law_row", "_law_lands", "_law_cells", "_law_land", "_law_k"] ["_law_row", "_law_lands", "_law_cells"] (defScope (top 55)) := ⟨by rfl, by rfl, by rfl, by decide +kernel, by rfl, by decide +kernel, by decide +kernel⟩
theorem ok__law_table (M : MF mg) (F : FunD K "_law_table" "_law_table" (defArgs (top 55)) (defBody (top 55)) (defScope (top 55)) [] [] (He.fAd K ("_law_table", none)) fd) (hm : mg "_law_table" = some (.ref (He.fAd K ("_law_table", none)))) (c__law_taken : C8.Cal P w K mg base 4 "_law_taken" (spX ⟨P, w, T⟩ K 1 W_taken) []) : C8.Cal P w K mg base 8 "_law_table" (spX ⟨P, w, T⟩ K 2 W_table) [] := by
  refine cal_of (k := 7) (N := ["_law_row", "_law_lands", "_law_cells", "_law_land", "_law_k"]) (ps := ["_law_row", "_law_lands", "_law_cells"]) F hm sc__law_table (fun vs H Q E h => spX_len vs H Q E h) (fun _ _ _ _ _ _ us hl => match us, hl with | [_, _, _], _ => rfl) (fun A outer s H vs Q E hr h => ⟨_, ?_, fn_bodyW (Wa := w__law_table) (by decide) vs H Q E h⟩)
  exact (sw_cons (sw_ret (rx_tuple M.tuple (rx_lc (j := 3) (by decide) (by rfl) sc__law_table.nd (id_range M.range (pd_var (i := 1) (by rfl) (by first | exact .inl rfl | exact .inr (.inl rfl) | exact .inr (.inr rfl)))) (jn := "_law_land") (blk_of (N := ["_law_row", "_law_lands", "_law_cells", "_law_land", "_law_k"]) (sc := defScope (top 55)) (by decide +kernel)) (fun _ _ _ _ _ => (gd_name (i := 3) sc__law_table.nd (by rfl) (by first | exact .inl rfl | exact .inr rfl) (by first | exact .inl rfl | exact .inr rfl))) (fun _ _ _ _ _ => (rx_tuple M.tuple (rx_lc (j := 4) (by decide) (by rfl) sc__law_table.nd (id_range M.range (pd_var (i := 2) (by rfl) (by first | exact .inl rfl | exact .inr (.inl rfl) | exact .inr (.inr rfl)))) (jn := "_law_k") (blk_of (by kernel_rfl)) (fun _ _ _ _ _ => (gd_name (i := 4) sc__law_table.nd (by rfl) (by first | exact .inl rfl | exact .inr rfl) (by first | exact .inl rfl | exact .inr rfl))) (fun _ _ _ _ _ => (rx_op op_sub (step_I0 fun i j e h S => by cases h; exact .int _) (rx_call (i := 0) c__law_taken hr (by decide) (by rfl) (by rfl) (by first | exact .inl rfl | exact .inr (.inl rfl) | exact .inr (.inr rfl)) (n := 1) (ad_cons pd_int ad_nil)) (rx_of pd_int))))))))) (sw_fds (i := 0) sd_nil))
end K08
end

section
set_option Elab.async false
set_option linter.all false
set_option maxRecDepth 100000
set_option maxHeartbeats 4000000
/-! the defs of the linked text as functions of data: printed by gen.py. -/
namespace K08
open PySem PySem.Spec PyProof.Rows L2 FD
variable {P : Program} {w : World} {K : PySem.W.Frag} {mg : Str → Option Value} {base : Heap} {fd : FuncData} {T : List Addr}
theorem fnok_of {x : PySem.Str} {params : Arguments} {body : List Stmt} {scope : Scope} {N ps : List PySem.Str} {k : Nat} {sp : Sp} (F : FunD K x x params body scope [] [] (He.fAd K (x, none)) fd) (S : FnScope N ps scope) (len : ∀ vs H Q E, sp vs H Q E → vs.length = ps.length)
    (hbody : ∀ (A : Around) (outer : List Env) (s : Shared) (H : Hp) (vs : List V) (Q : VK) (E : XK), Room k (A.deeper (envOfC x scope s.heap.objs.size (He.fAd K (x, none)) (.ref (He.cT K (x, none)).1))) → sp vs H Q E →
      ∃ t, PSs (cxOf C8.CX0 P w K mg base N x scope (He.fAd K (x, none)) (.ref (He.cT K (x, none)).1) A outer s H E).nox body t ∧ t { nx := fun _ H' => Q .non H', rt := Q } (L2.start N vs) H) : FnOk P w K mg base C8.CX0 (k + 1) (He.fAd K (x, none)) fd ps sp := by
  obtain ⟨oc, od, dV, kV, doc, pm, an, cdv, ct, osl, rfl, lk, hcd, _, _⟩ := F.ex
  obtain ⟨c, rfl⟩ := He.codeIn_ref hcd
  have e : (He.cT K (x, none)).1 = c := He.codeOf_eq lk rfl
  rw [e] at hbody
  refine fn_of lk hcd S len fun A outer s H vs Q E hr hsp => ?_
  obtain ⟨t, h1, h2⟩ := hbody A outer s H vs Q E hr hsp
  exact ⟨t, PSs.nox h1, h2⟩
theorem law_start {E : Fx} {K : PySem.W.Frag} {Wl : Ws} {N : List PySem.Str} {n : Nat} (hN : N.length = n + 2) {vs : List V} {H : Hp} {Q : VK}
    (hp : ∀ r : Addr, Wl ([none, some (false, .adr r)] ++ List.replicate n none) fun o => o = .rt (dB true))
    (h : ∃ (a : Addr) (ns : List Int), vs = [.ref a] ∧ ns.length ≤ 100000 ∧ SqL K H a (ns.map V.int) ∧ (∀ Pt ∈ E.T, H Pt = some (.tbl #[])) ∧ ∀ H2, Q (.bl true) H2) :
    tSeq (tAsg (tLst (tCons (tVar 0) (tCons (tC (.int 0)) (tCons (tC (.int 13908)) (tCons (tC (.int 0)) tNil))))) (gName 1)) (tW E K 1 Wl) { nx := fun _ H' => Q .non H', rt := Q } (L2.start N vs) H := by
  obtain ⟨a, ns, rfl, hl, hs, ht, hQ⟩ := h
  have e0 : (L2.start N [V.ref a] : L2.St) = some (.ref a) :: List.replicate (n + 1) none := by
    unfold L2.start
    rw [hN]; rfl
  rw [e0]
  refine ⟨.ref a, rfl, by show 4 ≤ sizeLine; decide, fun r hr => ?_⟩
  show tW E K 1 Wl _ _ _
  have tabs : ∀ P ∈ E.T, GxR.TabG (upd H r (.lst [.ref a, .int 0, .int 13908, .int 0])) P ∧ (none : Option HO) = none := fun P hP => by
    have e := ht P hP
    have nP : P ≠ r := fun z => by rw [z, hr] at e; cases e
    exact ⟨⟨#[], by rw [upd_ne nP]; exact e, by first | exact trivial | (unfold TriplesOk; simp)⟩, rfl⟩
  have env_at : ∀ (i : Nat) (b : Bool) (x : DV), ([none, some (false, DV.adr r)] ++ List.replicate n none : DE)[i]? = some (some (b, x)) → i = 1 ∧ b = false ∧ x = .adr r := fun i b x e => by
    match i, e with
    | 0, e => cases e
    | 1, e => cases e; exact ⟨rfl, rfl, rfl⟩
    | i + 2, e =>
      have e : (List.replicate n none : DE)[i]? = some (some (b, x)) := e
      obtain ⟨h1, h2⟩ := List.getElem?_eq_some_iff.mp e
      rw [List.getElem_replicate] at h2
      cases h2
  have rel : RelE E ([none, some (false, DV.adr r)] ++ List.replicate n none) ((some (V.ref a) :: List.replicate (n + 1) none).set 1 (some (.ref r))) (fun _ => none) (upd H r (.lst [.ref a, .int 0, .int 13908, .int 0])) := by
    refine ⟨?_, ?_, tabs, ?_, ?_, ?_⟩
    · simp
    · intro b o e; cases e
    · intro i x e
      obtain ⟨rfl, _, rfl⟩ := env_at i _ x e
      exact ⟨.ref r, rfl, rfl⟩
    · intro i x e
      obtain ⟨_, e2, _⟩ := env_at i _ x e
      cases e2
    · intro i j x y b e
      obtain ⟨_, e2, _⟩ := env_at i _ x e
      cases e2
  refine ⟨r, a, ns, fun _ => none, fun _ => none, fun _ => none, [none, some (false, .adr r)] ++ List.replicate n none, fun o => o = .rt (dB true), ⟨⟨rel, ⟨0, 13908, 0, upd_same, by decide, by decide, by decide, by decide⟩, rfl, ?_, rfl, ?_, hl⟩, ⟨Sub.refl _, ?_, ?_, fun b o e n => rfl, fun P hP => (tabs P hP).1⟩, ?_⟩, hp r, ?_⟩
  · intro i x b e
    obtain ⟨_, e2, _⟩ := env_at i _ x e
    cases e2
  · rcases hs with hs | hs
    · have na : a ≠ r := fun z => by
        subst z
        rcases hs with e | ⟨o, e⟩ <;> (rw [hr] at e; cases e)
      refine .inl ⟨?_, na⟩
      rcases hs with e | ⟨o, e⟩
      · exact .inl (by rw [upd_ne na]; exact e)
      · exact .inr ⟨o, by rw [upd_ne na]; exact e⟩
    · exact .inr hs
  · intro b o e; cases e
  · intro b o n e
    have := (Hm_some e).2
    cases this
  · intro i x b e
    obtain ⟨_, e2, _⟩ := env_at i _ x e
    cases e2
  · intro o ho
    subst ho
    intro v S' H' g row nS hv
    cases (show Dq S' v (.bool true) from hv)
    exact hQ H'
/-! ### law -/
def g_rest : DE → Option Out := (sSeq (sIf (tNotF (eTru (eCall (F__law_alike 4) (aCons (eCall F_worth (aCons (eVar 3) (aCons (eVar 4) aNil))) (aCons (eCall F__law_worth (aCons (eVar 3) (aCons (eVar 4) aNil))) aNil))))) (sSeq (sRet (eC (.bool false))) sNil) sNil) (sSeq (sPar false 8 false 9 (aCons (e1 dSorted (e1 dKeysL (eCall F__law_from (aCons (eVar 3) aNil)))) (aCons (eCall F__law_maps (aCons (eVar 6) (aCons (eVar 2) (aCons (eVar 7) aNil)))) aNil))) (sSeq (sFor (iSeq (eLstL (lCons (eTupL (lCons (eCall F_best_in_class (aCons (eVar 3) (aCons (eVar 4) aNil))) (lCons (eVar 8) (lCons (eC (.int 0)) lNil)))) (lCons (eTupL (lCons (eCall F_best_map (aCons (eVar 6) (aCons (eVar 2) (aCons (eVar 4) aNil)))) (lCons (eVar 9) (lCons (eC (.int 1)) lNil)))) lNil)))) (gtT [10, 11, 12]) (sClr [10, 11, 12, 13, 14, 15, 16, 21, 22] (sSeq (sSet false 13 (eLc [23] (iSeq (eVar 11)) (gtN 23) tYesF (eCall F__law_worth (aCons (eVar 23) (aCons (eVar 4) aNil))))) (sSeq (sSet false 14 (e1 dMax (eVar 13))) (sSeq (sIf (tOrF (tNotF (eTru (e1 (dIsi "tuple") (eVar 10)))) (tOrF (eTru (e2 dNe (e1 dLen (eVar 10)) (eC (.int 2)))) (tOrF (eTru (e2 dNe (e2 dIx (eVar 10) (eC (.int 0))) (eVar 14))) (tOrF (eTru (e2 (dIn true) (e2 dIx (eVar 10) (eC (.int 1))) (eVar 11))) (eTru (e2 dNe (e2 dIx (eVar 13) (e2 dIndex (eVar 11) (e2 dIx (eVar 10) (eC (.int 1))))) (eVar 14))))))) (sSeq (sRet (eC (.bool false))) sNil) sNil) (sSeq (sSet false 15 (eLstL (lCons (eVar 10) (lCons (e1 dList (eVar 10)) (lCons (eTupL (lCons (e2 dAdd (eVar 14) (eC (.int 1))) (lCons (e2 dIx (eVar 10) (eC (.int 1))) lNil))) (lCons (eTupL (lCons (eVar 14) (lCons (e1 dList (e2 dIx (eVar 10) (eC (.int 1)))) lNil))) (lCons (eTupL (lCons (eVar 14) (lCons (eTupL (lCons (eVar 6) (lCons (eTupL lNil) lNil))) lNil))) (lCons (eC .none) (lCons (eC (.int 3)) (lCons (eTupL (lCons (eVar 14) (lCons (eTupL (lCons (eVar 6) (lCons (e2 dRep (eTupL (lCons (eC (.int 0)) lNil)) (e1 dLen (e2 dIx (eVar 3) (eC (.int 1))))) lNil))) lNil))) lNil)))))))))) (sSeq (sFor (iSeq (e2 dAdd (e2 dAdd (eVar 15) (eLc [23] (iSeq (eSl (eVar 8) pN (pS (eC (.int 20))))) (gtN 23) tYesF (eTupL (lCons (eVar 14) (lCons (eVar 23) lNil))))) (eLc [23] (iSeq (eSl (eVar 9) pN (pS (eC (.int 20))))) (gtN 23) tYesF (eTupL (lCons (eVar 14) (lCons (eVar 23) lNil)))))) (gtN 16) (sClr [16, 21, 22] (sSeq (sSet false 21 (eAnd (e1 (dIsi "tuple") (eVar 16)) (eAnd (e2 dEq (e1 dLen (eVar 16)) (eC (.int 2))) (eAnd (e2 dEq (e2 dIx (eVar 16) (eC (.int 0))) (eVar 14)) (e1 (dIsi "tuple") (e2 dIx (eVar 16) (eC (.int 1)))))))) (sSeq (sSet false 21 (eAnd (eVar 21) (eAnd (e2 (dIn false) (e2 dIx (eVar 16) (eC (.int 1))) (eVar 11)) (e2 dEq (e2 dIx (eVar 13) (e2 dIndex (eVar 11) (e2 dIx (eVar 16) (eC (.int 1))))) (eVar 14))))) (sSeq (sSet false 22 (eIf (eTru (e2 dEq (eVar 12) (eC (.int 0)))) (eCall F_shows_best_in_class (aCons (eVar 3) (aCons (eVar 4) (aCons (eVar 16) aNil)))) (eCall F_shows_best_map (aCons (eVar 6) (aCons (eVar 2) (aCons (eVar 4) (aCons (eVar 16) aNil))))))) (sSeq (sIf (tNotF (eTru (eCall (F__law_alike 4) (aCons (eVar 22) (aCons (eVar 21) aNil))))) (sSeq (sRet (eC (.bool false))) sNil) sNil) sNil)))))) sNil))))))) (sSeq (sTup [17, 18] (eTupL (lCons (eVar 3) (lCons (eTupL lNil) lNil)))) (sSeq (sFor (iRange (eC (.int 40))) (gtN 5) (sClr [5, 19, 20] (sSeq (sSet false 19 (eCall F__law_takings (aCons (eVar 17) aNil))) (sSeq (sSet false 20 (eLc [23] (iSeq (eVar 19)) (gtN 23) tYesF (eCall F__law_worth (aCons (eCall F__law_behind (aCons (eVar 17) (aCons (eVar 23) aNil))) (aCons (eVar 4) aNil))))) (sSeq (sIf (tAndF (eTru (e2 dNe (eVar 19) (eLstL lNil))) (eTru (e2 dGt (e1 dMax (eVar 20)) (eCall F__law_worth (aCons (eVar 17) (aCons (eVar 4) aNil)))))) (sSeq (sSet false 18 (e2 dAdd (eVar 18) (eTupL (lCons (e2 dIx (eVar 19) (e2 dIndex (eVar 20) (e1 dMax (eVar 20)))) lNil)))) (sSeq (sSet false 17 (eCall F__law_behind (aCons (eVar 17) (aCons (e2 dIx (eVar 18) (e1 dNeg (eC (.int 1)))) aNil)))) sNil)) sNil) sNil))))) (sSeq (sRet (eCall (F__law_alike 4) (aCons (eCall F_climb (aCons (eVar 3) (aCons (eVar 4) aNil))) (aCons (eVar 18) aNil)))) sNil))))))
def w_law : Ws := (wSeq (wSet 2 (x2 dAdd (xE (eC (.int 1))) (xC W_taken (aCons (eC (.int 2)) aNil)))) (wSeq (wPar 6 7 (x2 dAdd (xE (eC (.int 3))) (xC W_taken (aCons (eC (.int 2)) aNil))) (x2 dAdd (xE (eC (.int 2))) (xC W_taken (aCons (eVar 2) aNil)))) (wSeq (wSet 3 (xC W_map (aCons (eVar 6) (aCons (eVar 2) (aCons (eVar 7) aNil))))) (wSeq (wSet 4 (xC W_table (aCons (eVar 7) (aCons (e1 dLen (e2 dIx (eVar 3) (eC (.int 1)))) aNil)))) (wE 1 g_rest)))))
abbrev nLaw : Nat := 24
def NLaw : List PySem.Str := ["_law_script", "_law_row", "_law_length", "_law_chart", "_law_values", "_law_turn", "_law_arms", "_law_lands", "_law_every", "_law_some", "_law_found", "_law_maps_here", "_law_judge", "_law_sums", "_law_best", "_law_near_here", "_law_value", "_law_here", "_law_up", "_law_can", "_law_tops", "_law_due", "_law_told", "_law_one"]
theorem sc_law : FnScope ["_law_script", "_law_row", "_law_length", "_law_chart", "_law_values", "_law_turn", "_law_arms", "_law_lands", "_law_every", "_law_some", "_law_found", "_law_maps_here", "_law_judge", "_law_sums", "_law_best", "_law_near_here", "_law_value", "_law_here", "_law_up", "_law_can", "_law_tops", "_law_due", "_law_told", "_law_one"] ["_law_script"] (defScope (top 58)) := ⟨by rfl, by rfl, by rfl, by decide +kernel, by rfl, by decide +kernel, by decide +kernel⟩
def spLaw (K : PySem.W.Frag) (T : List Addr) : Sp := fun vs H Q _ => ∃ (a : Addr) (ns : List Int), vs = [.ref a] ∧ ns.length ≤ 100000 ∧ SqL K H a (ns.map V.int) ∧ (∀ Pt ∈ T, H Pt = some (.tbl #[])) ∧ ∀ H2, Q (.bl true) H2
abbrev envLaw (r : Addr) : DE := [none, some (false, .adr r)] ++ List.replicate (24 - 2) none
theorem ok_law (hp : ∀ r : Addr, w_law (envLaw r) fun o => o = .rt (dB true)) (M : MF mg) (F : FunD K "law" "law" (defArgs (top 58)) (defBody (top 58)) (defScope (top 58)) [] [] (He.fAd K ("law", none)) fd) (c__law_alike : C8.Cal P w K mg base 20 "_law_alike" (spD ⟨P, w, T⟩ 2 (F__law_alike 4)) []) (c__law_behind : C8.Cal P w K mg base 4 "_law_behind" (spD ⟨P, w, T⟩ 2 F__law_behind) []) (c__law_from : C8.Cal P w K mg base 16 "_law_from" (spD ⟨P, w, T⟩ 1 F__law_from) []) (c__law_map : C8.Cal P w K mg base 12 "_law_map" (spX ⟨P, w, T⟩ K 3 W_map) []) (c__law_maps : C8.Cal P w K mg base 4 "_law_maps" (spD ⟨P, w, T⟩ 3 F__law_maps) []) (c__law_table : C8.Cal P w K mg base 8 "_law_table" (spX ⟨P, w, T⟩ K 2 W_table) []) (c__law_taken : C8.Cal P w K mg base 4 "_law_taken" (spX ⟨P, w, T⟩ K 1 W_taken) []) (c__law_takings : C8.Cal P w K mg base 12 "_law_takings" (spD ⟨P, w, T⟩ 1 F__law_takings) []) (c__law_worth : C8.Cal P w K mg base 4 "_law_worth" (spD ⟨P, w, T⟩ 2 F__law_worth) []) (c_best_in_class : C8.Cal P w K mg base 28 "best_in_class" (spD ⟨P, w, T⟩ 2 F_best_in_class) []) (c_best_map : C8.Cal P w K mg base 16 "best_map" (spD ⟨P, w, T⟩ 3 F_best_map) []) (c_climb : C8.Cal P w K mg base 28 "climb" (spD ⟨P, w, T⟩ 2 F_climb) []) (c_shows_best_in_class : C8.Cal P w K mg base 28 "shows_best_in_class" (spD ⟨P, w, T⟩ 3 F_shows_best_in_class) []) (c_shows_best_map : C8.Cal P w K mg base 20 "shows_best_map" (spD ⟨P, w, T⟩ 4 F_shows_best_map) []) (c_worth : C8.Cal P w K mg base 28 "worth" (spD ⟨P, w, T⟩ 2 F_worth) []) : FnOk P w K mg base C8.CX0 32 (He.fAd K ("law", none)) fd ["_law_script"] (spLaw K T) := by
  refine fnok_of (k := 31) (N := ["_law_script", "_law_row", "_law_length", "_law_chart", "_law_values", "_law_turn", "_law_arms", "_law_lands", "_law_every", "_law_some", "_law_found", "_law_maps_here", "_law_judge", "_law_sums", "_law_best", "_law_near_here", "_law_value", "_law_here", "_law_up", "_law_can", "_law_tops", "_law_due", "_law_told", "_law_one"]) (ps := ["_law_script"]) F sc_law (fun vs H Q E h => ?_) (fun A outer s H vs Q E hr h => ⟨tSeq (tAsg (tLst (tCons (tVar 0) (tCons (tC (.int 0)) (tCons (tC (.int 13908)) (tCons (tC (.int 0)) tNil))))) (gName 1)) (tW ⟨P, w, T⟩ K 1 w_law), ?_, ?_⟩)
  · obtain ⟨a, ns, rfl, _⟩ := h; rfl
  · refine pss_cons (ps_set (i := 1) sc_law.nd (by rfl) (.inl rfl) (pe_lst (pa_cons (pe_var (i := 0) (by rfl) (by first | exact .inl rfl | exact .inr (.inl rfl) | exact .inr (.inr rfl))) (pa_cons pe_int (pa_cons pe_int (pa_cons pe_int pa_nil)))))) ?_
    exact (sw_cons (sw_set (i := 1) (j := 2) (by decide) sc_law.nd (by rfl) (by first | exact .inl rfl | exact .inr rfl) (rx_op (L2.OpR.or op_add (L2.OpR.or op_catA op_cat)) step_add (rx_of pd_int) (rx_call (i := 1) c__law_taken hr (by decide) (by rfl) (by rfl) (by first | exact .inl rfl | exact .inr (.inl rfl) | exact .inr (.inr rfl)) (n := 1) (ad_cons pd_int ad_nil))) (by first | exact .inl rfl | exact .inr rfl)) (sw_cons (sw_par (i := 1) (j := 6) (l := 7) (by decide) (by decide) (by rfl) sc_law.nd (by rfl) (by rfl) (by decide) (by rfl) (by rfl) (rx_op (L2.OpR.or op_add (L2.OpR.or op_catA op_cat)) step_add (rx_of pd_int) (rx_call (i := 1) c__law_taken hr (by decide) (by rfl) (by rfl) (by first | exact .inl rfl | exact .inr (.inl rfl) | exact .inr (.inr rfl)) (n := 1) (ad_cons pd_int ad_nil))) (rx_op (L2.OpR.or op_add (L2.OpR.or op_catA op_cat)) step_add (rx_of pd_int) (rx_call (i := 1) c__law_taken hr (by decide) (by rfl) (by rfl) (by first | exact .inl rfl | exact .inr (.inl rfl) | exact .inr (.inr rfl)) (n := 1) (ad_cons (pd_var (i := 2) (by rfl) (by first | exact .inl rfl | exact .inr (.inl rfl) | exact .inr (.inr rfl))) ad_nil))) (by rfl)) (sw_cons (sw_set (i := 1) (j := 3) (by decide) sc_law.nd (by rfl) (by first | exact .inl rfl | exact .inr rfl) (rx_call (i := 1) c__law_map hr (by decide) (by rfl) (by rfl) (by first | exact .inl rfl | exact .inr (.inl rfl) | exact .inr (.inr rfl)) (n := 3) (ad_cons (pd_var (i := 6) (by rfl) (by first | exact .inl rfl | exact .inr (.inl rfl) | exact .inr (.inr rfl))) (ad_cons (pd_var (i := 2) (by rfl) (by first | exact .inl rfl | exact .inr (.inl rfl) | exact .inr (.inr rfl))) (ad_cons (pd_var (i := 7) (by rfl) (by first | exact .inl rfl | exact .inr (.inl rfl) | exact .inr (.inr rfl))) ad_nil)))) (by first | exact .inl rfl | exact .inr rfl)) (sw_cons (sw_set (i := 1) (j := 4) (by decide) sc_law.nd (by rfl) (by first | exact .inl rfl | exact .inr rfl) (rx_call (i := 1) c__law_table hr (by decide) (by rfl) (by rfl) (by first | exact .inl rfl | exact .inr (.inl rfl) | exact .inr (.inr rfl)) (n := 2) (ad_cons (pd_var (i := 7) (by rfl) (by first | exact .inl rfl | exact .inr (.inl rfl) | exact .inr (.inr rfl))) (ad_cons (pd_len M.len (pd_item (pd_var (i := 3) (by rfl) (by first | exact .inl rfl | exact .inr (.inl rfl) | exact .inr (.inr rfl))) pd_int)) ad_nil))) (by first | exact .inl rfl | exact .inr rfl)) (sw_fds (i := 1) (sd_cons (sd_if (td_not (td_tru (pd_call c__law_alike hr (by decide) (by rfl) (n := 2) (ad_cons (pd_call c_worth hr (by decide) (by rfl) (n := 2) (ad_cons (pd_var (i := 3) (by rfl) (by first | exact .inl rfl | exact .inr (.inl rfl) | exact .inr (.inr rfl))) (ad_cons (pd_var (i := 4) (by rfl) (by first | exact .inl rfl | exact .inr (.inl rfl) | exact .inr (.inr rfl))) ad_nil))) (ad_cons (pd_call c__law_worth hr (by decide) (by rfl) (n := 2) (ad_cons (pd_var (i := 3) (by rfl) (by first | exact .inl rfl | exact .inr (.inl rfl) | exact .inr (.inr rfl))) (ad_cons (pd_var (i := 4) (by rfl) (by first | exact .inl rfl | exact .inr (.inl rfl) | exact .inr (.inr rfl))) ad_nil))) ad_nil))))) (sd_cons (sd_ret pd_bl) sd_nil) sd_nil) (sd_cons (sd_par false false (i := 8) (j := 9) (by rfl) (by rfl) sc_law.nd (by rfl) (by rfl) (by decide) (by rfl) (by rfl) (ad_cons (pd_frz (pd_sorted hr M.sorted (pd_frz (pd_listd (by rfl) M.list (pd_call c__law_from hr (by decide) (by rfl) (n := 1) (ad_cons (pd_var (i := 3) (by rfl) (by first | exact .inl rfl | exact .inr (.inl rfl) | exact .inr (.inr rfl))) ad_nil)))))) (ad_cons (pd_call c__law_maps hr (by decide) (by rfl) (n := 3) (ad_cons (pd_var (i := 6) (by rfl) (by first | exact .inl rfl | exact .inr (.inl rfl) | exact .inr (.inr rfl))) (ad_cons (pd_var (i := 2) (by rfl) (by first | exact .inl rfl | exact .inr (.inl rfl) | exact .inr (.inr rfl))) (ad_cons (pd_var (i := 7) (by rfl) (by first | exact .inl rfl | exact .inr (.inl rfl) | exact .inr (.inr rfl))) ad_nil)))) ad_nil)) (by rfl)) (sd_cons (sd_for PassesOwn.never (by rfl) (id_seq (pd_frz (pd_lstL (ld_cons (pd_tupL (ld_cons (pd_call c_best_in_class hr (by decide) (by rfl) (n := 2) (ad_cons (pd_var (i := 3) (by rfl) (by first | exact .inl rfl | exact .inr (.inl rfl) | exact .inr (.inr rfl))) (ad_cons (pd_var (i := 4) (by rfl) (by first | exact .inl rfl | exact .inr (.inl rfl) | exact .inr (.inr rfl))) ad_nil))) (ld_cons (pd_var (i := 8) (by rfl) (by first | exact .inl rfl | exact .inr (.inl rfl) | exact .inr (.inr rfl))) (ld_cons pd_int ld_nil)))) (ld_cons (pd_tupL (ld_cons (pd_call c_best_map hr (by decide) (by rfl) (n := 3) (ad_cons (pd_var (i := 6) (by rfl) (by first | exact .inl rfl | exact .inr (.inl rfl) | exact .inr (.inr rfl))) (ad_cons (pd_var (i := 2) (by rfl) (by first | exact .inl rfl | exact .inr (.inl rfl) | exact .inr (.inr rfl))) (ad_cons (pd_var (i := 4) (by rfl) (by first | exact .inl rfl | exact .inr (.inl rfl) | exact .inr (.inr rfl))) ad_nil)))) (ld_cons (pd_var (i := 9) (by rfl) (by first | exact .inl rfl | exact .inr (.inl rfl) | exact .inr (.inr rfl))) (ld_cons pd_int ld_nil)))) ld_nil))))) (gd_tup (by rfl) (gds_cons (i := 10) sc_law.nd (by rfl) (by first | exact .inl rfl | exact .inr rfl) (by first | exact .inl rfl | exact .inr rfl) (gds_cons (i := 11) sc_law.nd (by rfl) (by first | exact .inl rfl | exact .inr rfl) (by first | exact .inl rfl | exact .inr rfl) (gds_cons (i := 12) sc_law.nd (by rfl) (by first | exact .inl rfl | exact .inr rfl) (by first | exact .inl rfl | exact .inr rfl) gds_nil)))) (sd_clr [10, 11, 12, 13, 14, 15, 16, 21, 22] (sd_cons (sd_setLc false (i := 13) (by rfl) sc_law.nd (by rfl) (by rfl) (by rfl) (id_seq (pd_var (i := 11) (by rfl) (by first | exact .inl rfl | exact .inr (.inl rfl) | exact .inr (.inr rfl)))) (own := [(("_law_one" : PySem.Str), 23)]) (blk_of (N := ["_law_script", "_law_row", "_law_length", "_law_chart", "_law_values", "_law_turn", "_law_arms", "_law_lands", "_law_every", "_law_some", "_law_found", "_law_maps_here", "_law_judge", "_law_sums", "_law_best", "_law_near_here", "_law_value", "_law_here", "_law_up", "_law_can", "_law_tops", "_law_due", "_law_told", "_law_one"]) (sc := defScope (top 58)) (by decide +kernel)) (by decide) (fun _ _ _ _ _ => (gd_name (i := 23) sc_law.nd (by rfl) (by first | exact .inl rfl | exact .inr rfl) (by first | exact .inl rfl | exact .inr rfl))) (fun _ _ _ _ _ => tds_nil) (fun _ _ _ _ _ => (pd_call c__law_worth hr (by decide) (by rfl) (n := 2) (ad_cons (pd_var (i := 23) (by rfl) (by first | exact .inl rfl | exact .inr (.inl rfl) | exact .inr (.inr rfl))) (ad_cons (pd_var (i := 4) (by rfl) (by first | exact .inl rfl | exact .inr (.inl rfl) | exact .inr (.inr rfl))) ad_nil))))) (sd_cons (sd_set false (i := 14) sc_law.nd (by rfl) (by first | exact .inl rfl | exact .inr rfl) (pd_max hr M.max (pd_var (i := 13) (by rfl) (by first | exact .inl rfl | exact .inr (.inl rfl) | exact .inr (.inr rfl)))) (by first | exact .inl rfl | exact .inr rfl)) (sd_cons (sd_if (PW.pt (wd_or (td_not (td_tru (pd_isi (.inr (.inr (.inl rfl))) M.isinstance M.tuple (by rfl) (pd_var (i := 10) (by rfl) (by first | exact .inl rfl | exact .inr (.inl rfl) | exact .inr (.inr rfl)))))) (wd_or (td_c (c_ne hr) (pd_len M.len (pd_var (i := 10) (by rfl) (by first | exact .inl rfl | exact .inr (.inl rfl) | exact .inr (.inr rfl)))) pd_int) (wd_or (td_c (c_ne hr) (pd_item (pd_var (i := 10) (by rfl) (by first | exact .inl rfl | exact .inr (.inl rfl) | exact .inr (.inr rfl))) pd_int) (pd_var (i := 14) (by rfl) (by first | exact .inl rfl | exact .inr (.inl rfl) | exact .inr (.inr rfl)))) (wd_or (td_c (c_nin hr) (pd_item (pd_var (i := 10) (by rfl) (by first | exact .inl rfl | exact .inr (.inl rfl) | exact .inr (.inr rfl))) pd_int) (pd_var (i := 11) (by rfl) (by first | exact .inl rfl | exact .inr (.inl rfl) | exact .inr (.inr rfl)))) (pw_or1 (td_c (c_ne hr) (pd_item (pd_var (i := 13) (by rfl) (by first | exact .inl rfl | exact .inr (.inl rfl) | exact .inr (.inr rfl))) (pd_index hr (pd_var (i := 11) (by rfl) (by first | exact .inl rfl | exact .inr (.inl rfl) | exact .inr (.inr rfl))) (pd_item (pd_var (i := 10) (by rfl) (by first | exact .inl rfl | exact .inr (.inl rfl) | exact .inr (.inr rfl))) pd_int))) (pd_var (i := 14) (by rfl) (by first | exact .inl rfl | exact .inr (.inl rfl) | exact .inr (.inr rfl)))))))))) (sd_cons (sd_ret pd_bl) sd_nil) sd_nil) (sd_cons (sd_set false (i := 15) sc_law.nd (by rfl) (by first | exact .inl rfl | exact .inr rfl) (pd_frz (pd_lstL (ld_cons (pd_var (i := 10) (by rfl) (by first | exact .inl rfl | exact .inr (.inl rfl) | exact .inr (.inr rfl))) (ld_cons (pd_frz (pd_tolist M.list (pd_var (i := 10) (by rfl) (by first | exact .inl rfl | exact .inr (.inl rfl) | exact .inr (.inr rfl))))) (ld_cons (pd_tupL (ld_cons (pd_add (pd_var (i := 14) (by rfl) (by first | exact .inl rfl | exact .inr (.inl rfl) | exact .inr (.inr rfl))) pd_int) (ld_cons (pd_item (pd_var (i := 10) (by rfl) (by first | exact .inl rfl | exact .inr (.inl rfl) | exact .inr (.inr rfl))) pd_int) ld_nil))) (ld_cons (pd_tupL (ld_cons (pd_var (i := 14) (by rfl) (by first | exact .inl rfl | exact .inr (.inl rfl) | exact .inr (.inr rfl))) (ld_cons (pd_frz (pd_tolist M.list (pd_item (pd_var (i := 10) (by rfl) (by first | exact .inl rfl | exact .inr (.inl rfl) | exact .inr (.inr rfl))) pd_int))) ld_nil))) (ld_cons (pd_tupL (ld_cons (pd_var (i := 14) (by rfl) (by first | exact .inl rfl | exact .inr (.inl rfl) | exact .inr (.inr rfl))) (ld_cons (pd_tupL (ld_cons (pd_var (i := 6) (by rfl) (by first | exact .inl rfl | exact .inr (.inl rfl) | exact .inr (.inr rfl))) (ld_cons (pd_tupL ld_nil) ld_nil))) ld_nil))) (ld_cons pd_non (ld_cons pd_int (ld_cons (pd_tupL (ld_cons (pd_var (i := 14) (by rfl) (by first | exact .inl rfl | exact .inr (.inl rfl) | exact .inr (.inr rfl))) (ld_cons (pd_tupL (ld_cons (pd_var (i := 6) (by rfl) (by first | exact .inl rfl | exact .inr (.inl rfl) | exact .inr (.inr rfl))) (ld_cons (pd_rep (pd_tupL (ld_cons pd_int ld_nil)) (pd_len M.len (pd_item (pd_var (i := 3) (by rfl) (by first | exact .inl rfl | exact .inr (.inl rfl) | exact .inr (.inr rfl))) pd_int))) ld_nil))) ld_nil))) ld_nil)))))))))) (by first | exact .inl rfl | exact .inr rfl)) (sd_cons (sd_for PassesOwn.never (by rfl) (id_seq (pd_add (pd_add (pd_var (i := 15) (by rfl) (by first | exact .inl rfl | exact .inr (.inl rfl) | exact .inr (.inr rfl))) (pd_frz (pd_lc (by rfl) sc_law.nd (id_seq (pd_slice (pd_var (i := 8) (by rfl) (by first | exact .inl rfl | exact .inr (.inl rfl) | exact .inr (.inr rfl))) od_none (od_some pd_int))) (own := [(("_law_one" : PySem.Str), 23)]) (blk_of (N := ["_law_script", "_law_row", "_law_length", "_law_chart", "_law_values", "_law_turn", "_law_arms", "_law_lands", "_law_every", "_law_some", "_law_found", "_law_maps_here", "_law_judge", "_law_sums", "_law_best", "_law_near_here", "_law_value", "_law_here", "_law_up", "_law_can", "_law_tops", "_law_due", "_law_told", "_law_one"]) (sc := defScope (top 58)) (by decide +kernel)) (by decide) (fun _ _ _ _ _ => (gd_name (i := 23) sc_law.nd (by rfl) (by first | exact .inl rfl | exact .inr rfl) (by first | exact .inl rfl | exact .inr rfl))) (fun _ _ _ _ _ => tds_nil) (fun _ _ _ _ _ => (pd_tupL (ld_cons (pd_var (i := 14) (by rfl) (by first | exact .inl rfl | exact .inr (.inl rfl) | exact .inr (.inr rfl))) (ld_cons (pd_var (i := 23) (by rfl) (by first | exact .inl rfl | exact .inr (.inl rfl) | exact .inr (.inr rfl))) ld_nil))))))) (pd_frz (pd_lc (by rfl) sc_law.nd (id_seq (pd_slice (pd_var (i := 9) (by rfl) (by first | exact .inl rfl | exact .inr (.inl rfl) | exact .inr (.inr rfl))) od_none (od_some pd_int))) (own := [(("_law_one" : PySem.Str), 23)]) (blk_of (N := ["_law_script", "_law_row", "_law_length", "_law_chart", "_law_values", "_law_turn", "_law_arms", "_law_lands", "_law_every", "_law_some", "_law_found", "_law_maps_here", "_law_judge", "_law_sums", "_law_best", "_law_near_here", "_law_value", "_law_here", "_law_up", "_law_can", "_law_tops", "_law_due", "_law_told", "_law_one"]) (sc := defScope (top 58)) (by decide +kernel)) (by decide) (fun _ _ _ _ _ => (gd_name (i := 23) sc_law.nd (by rfl) (by first | exact .inl rfl | exact .inr rfl) (by first | exact .inl rfl | exact .inr rfl))) (fun _ _ _ _ _ => tds_nil) (fun _ _ _ _ _ => (pd_tupL (ld_cons (pd_var (i := 14) (by rfl) (by first | exact .inl rfl | exact .inr (.inl rfl) | exact .inr (.inr rfl))) (ld_cons (pd_var (i := 23) (by rfl) (by first | exact .inl rfl | exact .inr (.inl rfl) | exact .inr (.inr rfl))) ld_nil)))))))) (gd_name (i := 16) sc_law.nd (by rfl) (by first | exact .inl rfl | exact .inr rfl) (by first | exact .inl rfl | exact .inr rfl)) (sd_clr [16, 21, 22] (sd_cons (sd_set false (i := 21) sc_law.nd (by rfl) (by first | exact .inl rfl | exact .inr rfl) (pd_and (pd_isi (.inr (.inr (.inl rfl))) M.isinstance M.tuple (by rfl) (pd_var (i := 16) (by rfl) (by first | exact .inl rfl | exact .inr (.inl rfl) | exact .inr (.inr rfl)))) (pd_and (pd_c (c_eq hr) (pd_len M.len (pd_var (i := 16) (by rfl) (by first | exact .inl rfl | exact .inr (.inl rfl) | exact .inr (.inr rfl)))) pd_int) (pd_and (pd_c (c_eq hr) (pd_item (pd_var (i := 16) (by rfl) (by first | exact .inl rfl | exact .inr (.inl rfl) | exact .inr (.inr rfl))) pd_int) (pd_var (i := 14) (by rfl) (by first | exact .inl rfl | exact .inr (.inl rfl) | exact .inr (.inr rfl)))) (pd_one (pd_isi (.inr (.inr (.inl rfl))) M.isinstance M.tuple (by rfl) (pd_item (pd_var (i := 16) (by rfl) (by first | exact .inl rfl | exact .inr (.inl rfl) | exact .inr (.inr rfl))) pd_int)))))) (by first | exact .inl rfl | exact .inr rfl)) (sd_cons (sd_set false (i := 21) sc_law.nd (by rfl) (by first | exact .inl rfl | exact .inr rfl) (pd_and (pd_var (i := 21) (by rfl) (by first | exact .inl rfl | exact .inr (.inl rfl) | exact .inr (.inr rfl))) (pd_and (pd_c (c_in hr) (pd_item (pd_var (i := 16) (by rfl) (by first | exact .inl rfl | exact .inr (.inl rfl) | exact .inr (.inr rfl))) pd_int) (pd_var (i := 11) (by rfl) (by first | exact .inl rfl | exact .inr (.inl rfl) | exact .inr (.inr rfl)))) (pd_one (pd_c (c_eq hr) (pd_item (pd_var (i := 13) (by rfl) (by first | exact .inl rfl | exact .inr (.inl rfl) | exact .inr (.inr rfl))) (pd_index hr (pd_var (i := 11) (by rfl) (by first | exact .inl rfl | exact .inr (.inl rfl) | exact .inr (.inr rfl))) (pd_item (pd_var (i := 16) (by rfl) (by first | exact .inl rfl | exact .inr (.inl rfl) | exact .inr (.inr rfl))) pd_int))) (pd_var (i := 14) (by rfl) (by first | exact .inl rfl | exact .inr (.inl rfl) | exact .inr (.inr rfl))))))) (by first | exact .inl rfl | exact .inr rfl)) (sd_cons (sd_set false (i := 22) sc_law.nd (by rfl) (by first | exact .inl rfl | exact .inr rfl) (pd_if (td_c (c_eq hr) (pd_var (i := 12) (by rfl) (by first | exact .inl rfl | exact .inr (.inl rfl) | exact .inr (.inr rfl))) pd_int) (pd_call c_shows_best_in_class hr (by decide) (by rfl) (n := 3) (ad_cons (pd_var (i := 3) (by rfl) (by first | exact .inl rfl | exact .inr (.inl rfl) | exact .inr (.inr rfl))) (ad_cons (pd_var (i := 4) (by rfl) (by first | exact .inl rfl | exact .inr (.inl rfl) | exact .inr (.inr rfl))) (ad_cons (pd_var (i := 16) (by rfl) (by first | exact .inl rfl | exact .inr (.inl rfl) | exact .inr (.inr rfl))) ad_nil)))) (pd_call c_shows_best_map hr (by decide) (by rfl) (n := 4) (ad_cons (pd_var (i := 6) (by rfl) (by first | exact .inl rfl | exact .inr (.inl rfl) | exact .inr (.inr rfl))) (ad_cons (pd_var (i := 2) (by rfl) (by first | exact .inl rfl | exact .inr (.inl rfl) | exact .inr (.inr rfl))) (ad_cons (pd_var (i := 4) (by rfl) (by first | exact .inl rfl | exact .inr (.inl rfl) | exact .inr (.inr rfl))) (ad_cons (pd_var (i := 16) (by rfl) (by first | exact .inl rfl | exact .inr (.inl rfl) | exact .inr (.inr rfl))) ad_nil)))))) (by first | exact .inl rfl | exact .inr rfl)) (sd_cons (sd_if (td_not (td_tru (pd_call c__law_alike hr (by decide) (by rfl) (n := 2) (ad_cons (pd_var (i := 22) (by rfl) (by first | exact .inl rfl | exact .inr (.inl rfl) | exact .inr (.inr rfl))) (ad_cons (pd_var (i := 21) (by rfl) (by first | exact .inl rfl | exact .inr (.inl rfl) | exact .inr (.inr rfl))) ad_nil))))) (sd_cons (sd_ret pd_bl) sd_nil) sd_nil) sd_nil)))))) sd_nil))))))) (sd_cons (sd_tup (by rfl) (pd_tupL (ld_cons (pd_var (i := 3) (by rfl) (by first | exact .inl rfl | exact .inr (.inl rfl) | exact .inr (.inr rfl))) (ld_cons (pd_tupL ld_nil) ld_nil))) (gds_cons (i := 17) sc_law.nd (by rfl) (by first | exact .inl rfl | exact .inr rfl) (by first | exact .inl rfl | exact .inr rfl) (gds_cons (i := 18) sc_law.nd (by rfl) (by first | exact .inl rfl | exact .inr rfl) (by first | exact .inl rfl | exact .inr rfl) gds_nil))) (sd_cons (sd_for PassesOwn.never (by rfl) (id_range M.range pd_int) (gd_name (i := 5) sc_law.nd (by rfl) (by first | exact .inl rfl | exact .inr rfl) (by first | exact .inl rfl | exact .inr rfl)) (sd_clr [5, 19, 20] (sd_cons (sd_set false (i := 19) sc_law.nd (by rfl) (by first | exact .inl rfl | exact .inr rfl) (pd_call c__law_takings hr (by decide) (by rfl) (n := 1) (ad_cons (pd_var (i := 17) (by rfl) (by first | exact .inl rfl | exact .inr (.inl rfl) | exact .inr (.inr rfl))) ad_nil)) (by first | exact .inl rfl | exact .inr rfl)) (sd_cons (sd_setLc false (i := 20) (by rfl) sc_law.nd (by rfl) (by rfl) (by rfl) (id_seq (pd_var (i := 19) (by rfl) (by first | exact .inl rfl | exact .inr (.inl rfl) | exact .inr (.inr rfl)))) (own := [(("_law_one" : PySem.Str), 23)]) (blk_of (N := ["_law_script", "_law_row", "_law_length", "_law_chart", "_law_values", "_law_turn", "_law_arms", "_law_lands", "_law_every", "_law_some", "_law_found", "_law_maps_here", "_law_judge", "_law_sums", "_law_best", "_law_near_here", "_law_value", "_law_here", "_law_up", "_law_can", "_law_tops", "_law_due", "_law_told", "_law_one"]) (sc := defScope (top 58)) (by decide +kernel)) (by decide) (fun _ _ _ _ _ => (gd_name (i := 23) sc_law.nd (by rfl) (by first | exact .inl rfl | exact .inr rfl) (by first | exact .inl rfl | exact .inr rfl))) (fun _ _ _ _ _ => tds_nil) (fun _ _ _ _ _ => (pd_call c__law_worth hr (by decide) (by rfl) (n := 2) (ad_cons (pd_call c__law_behind hr (by decide) (by rfl) (n := 2) (ad_cons (pd_var (i := 17) (by rfl) (by first | exact .inl rfl | exact .inr (.inl rfl) | exact .inr (.inr rfl))) (ad_cons (pd_var (i := 23) (by rfl) (by first | exact .inl rfl | exact .inr (.inl rfl) | exact .inr (.inr rfl))) ad_nil))) (ad_cons (pd_var (i := 4) (by rfl) (by first | exact .inl rfl | exact .inr (.inl rfl) | exact .inr (.inr rfl))) ad_nil))))) (sd_cons (sd_if (PW.pt (wd_and (td_c (c_ne hr) (pd_var (i := 19) (by rfl) (by first | exact .inl rfl | exact .inr (.inl rfl) | exact .inr (.inr rfl))) (pd_frz (pd_lstL ld_nil))) (pw_and1 (td_c (c_gt hr) (pd_max hr M.max (pd_var (i := 20) (by rfl) (by first | exact .inl rfl | exact .inr (.inl rfl) | exact .inr (.inr rfl)))) (pd_call c__law_worth hr (by decide) (by rfl) (n := 2) (ad_cons (pd_var (i := 17) (by rfl) (by first | exact .inl rfl | exact .inr (.inl rfl) | exact .inr (.inr rfl))) (ad_cons (pd_var (i := 4) (by rfl) (by first | exact .inl rfl | exact .inr (.inl rfl) | exact .inr (.inr rfl))) ad_nil))))))) (sd_cons (sd_set false (i := 18) sc_law.nd (by rfl) (by first | exact .inl rfl | exact .inr rfl) (pd_add (pd_var (i := 18) (by rfl) (by first | exact .inl rfl | exact .inr (.inl rfl) | exact .inr (.inr rfl))) (pd_tupL (ld_cons (pd_item (pd_var (i := 19) (by rfl) (by first | exact .inl rfl | exact .inr (.inl rfl) | exact .inr (.inr rfl))) (pd_index hr (pd_var (i := 20) (by rfl) (by first | exact .inl rfl | exact .inr (.inl rfl) | exact .inr (.inr rfl))) (pd_max hr M.max (pd_var (i := 20) (by rfl) (by first | exact .inl rfl | exact .inr (.inl rfl) | exact .inr (.inr rfl)))))) ld_nil))) (by first | exact .inl rfl | exact .inr rfl)) (sd_cons (sd_set false (i := 17) sc_law.nd (by rfl) (by first | exact .inl rfl | exact .inr rfl) (pd_call c__law_behind hr (by decide) (by rfl) (n := 2) (ad_cons (pd_var (i := 17) (by rfl) (by first | exact .inl rfl | exact .inr (.inl rfl) | exact .inr (.inr rfl))) (ad_cons (pd_item (pd_var (i := 18) (by rfl) (by first | exact .inl rfl | exact .inr (.inl rfl) | exact .inr (.inr rfl))) (pd_neg pd_int)) ad_nil))) (by first | exact .inl rfl | exact .inr rfl)) sd_nil)) sd_nil) sd_nil))))) (sd_cons (sd_ret (pd_call c__law_alike hr (by decide) (by rfl) (n := 2) (ad_cons (pd_call c_climb hr (by decide) (by rfl) (n := 2) (ad_cons (pd_var (i := 3) (by rfl) (by first | exact .inl rfl | exact .inr (.inl rfl) | exact .inr (.inr rfl))) (ad_cons (pd_var (i := 4) (by rfl) (by first | exact .inl rfl | exact .inr (.inl rfl) | exact .inr (.inr rfl))) ad_nil))) (ad_cons (pd_var (i := 18) (by rfl) (by first | exact .inl rfl | exact .inr (.inl rfl) | exact .inr (.inr rfl))) ad_nil)))) sd_nil)))))))))))
  · exact law_start (n := 22) (by rfl) hp h
end K08
end

section
set_option Elab.async false
set_option linter.all false
set_option maxRecDepth 100000
set_option maxHeartbeats 4000000
/-! the defs of the linked text as functions of data: printed by gen.py. -/
namespace K08
open PySem PySem.Spec PyProof.Rows L2 FD
variable {P : Program} {w : World} {K : PySem.W.Frag} {mg : Str → Option Value} {base : Heap} {fd : FuncData} {T : List Addr}
theorem mf_of {h : Heap} (KX : K.In h) (G : h.Ns mainGlobals mg) (c : He.SaysD fa fn K) : MF mg := ⟨He.free_ok KX G (c.fact 41 (f := .free "len") rfl), He.free_ok KX G (c.fact 42 (f := .free "range") rfl), He.free_ok KX G (c.fact 43 (f := .free "isinstance") rfl), He.free_ok KX G (c.fact 44 (f := .free "int") rfl), He.free_ok KX G (c.fact 45 (f := .free "bool") rfl), He.free_ok KX G (c.fact 46 (f := .free "tuple") rfl), He.free_ok KX G (c.fact 47 (f := .free "list") rfl), He.free_ok KX G (c.fact 48 (f := .free "str") rfl), He.free_ok KX G (c.fact 49 (f := .free "sorted") rfl), He.free_ok KX G (c.fact 50 (f := .free "max") rfl), He.free_ok KX G (c.fact 51 (f := .free "sum") rfl), He.free_ok KX G (c.fact 52 (f := .free "all") rfl), He.free_ok KX G (c.fact 53 (f := .free "any") rfl), He.free_ok KX G (c.fact 54 (f := .free "set") rfl), He.free_ok KX G (c.fact 55 (f := .free "enumerate") rfl), He.int_ok KX G (c.fact 56 rfl), He.int_ok KX G (c.fact 57 rfl), He.int_ok KX G (c.fact 58 rfl), He.int_ok KX G (c.fact 59 rfl), He.int_ok KX G (c.fact 60 rfl)⟩
theorem law_facts (hp : ∀ r : Addr, w_law (envLaw r) fun o => o = .rt (dB true)) {h : Heap} (KX : K.In h) (G : h.Ns mainGlobals mg) (c : He.SaysD fa fn K) (base : Heap) (hT : ∀ p ∈ tf, (He.cT K p).2 ∈ T) (hB : ∀ p ∈ tf, GxR.TabB base mg (He.cT K p).1 (He.cT K p).2) (F : FunD K "law" "law" (defArgs (top 58)) (defBody (top 58)) (defScope (top 58)) [] [] (He.fAd K ("law", none)) fd) :
    FnOk P w K mg base C8.CX0 32 (He.fAd K ("law", none)) fd ["_law_script"] (spLaw K T) := by
  have M := mf_of KX G c
  have TL_are_cells : TLn K base mg T "are_cells" := ⟨hB ("are_cells", none) (by decide), hT ("are_cells", none) (by decide)⟩
  have TL_is_made : TLn K base mg T "is_made" := ⟨hB ("is_made", none) (by decide), hT ("is_made", none) (by decide)⟩
  have TL_are_values : TLn K base mg T "are_values" := ⟨hB ("are_values", none) (by decide), hT ("are_values", none) (by decide)⟩
  have TL_worth_of : TLn K base mg T "worth_of" := ⟨hB ("worth_of", none) (by decide), hT ("worth_of", none) (by decide)⟩
  have TL_best_for_hub : TLn K base mg T "best_for_hub" := ⟨hB ("best_for_hub", none) (by decide), hT ("best_for_hub", none) (by decide)⟩
  obtain ⟨fd_is_in, f_is_in⟩ := c.def_ 0 (d := df 10 "is_in") rfl
  have m_is_in := He.glo_ok KX G (c.fact 0 (f := .glo "is_in") rfl)
  have c_is_in := ok_is_in (P := P) (w := w) (base := base) (T := T) M f_is_in m_is_in 
  obtain ⟨fd_need_island, f_need_island⟩ := c.def_ 1 (d := df 11 "need_island") rfl
  have m_need_island := He.glo_ok KX G (c.fact 1 (f := .glo "need_island") rfl)
  have c_need_island := ok_need_island (P := P) (w := w) (base := base) (T := T) M f_need_island m_need_island c_is_in
  obtain ⟨fd_near, f_near⟩ := c.def_ 2 (d := df 12 "near") rfl
  have m_near := He.glo_ok KX G (c.fact 2 (f := .glo "near") rfl)
  have c_near := ok_near (P := P) (w := w) (base := base) (T := T) M f_near m_near 
  obtain ⟨fd_length_of, f_length_of⟩ := c.def_ 3 (d := df 13 "length_of") rfl
  have m_length_of := He.glo_ok KX G (c.fact 3 (f := .glo "length_of") rfl)
  have c_length_of := ok_length_of (P := P) (w := w) (base := base) (T := T) M f_length_of m_length_of 
  obtain ⟨fd_hangs, f_hangs⟩ := c.def_ 4 (d := df 14 "hangs") rfl
  have m_hangs := He.glo_ok KX G (c.fact 4 (f := .glo "hangs") rfl)
  have c_hangs := ok_hangs (P := P) (w := w) (base := base) (T := T) M f_hangs m_hangs c_near
  obtain ⟨fd_held, f_held⟩ := c.def_ 5 (d := df 15 "held") rfl
  have m_held := He.glo_ok KX G (c.fact 5 (f := .glo "held") rfl)
  have c_held := ok_held (P := P) (w := w) (base := base) (T := T) M f_held m_held 
  obtain ⟨fd_are_cells, f_are_cells⟩ := c.def_ 6 (d := df 16 "are_cells") rfl
  have m_are_cells := He.glo_ok KX G (c.fact 6 (f := .glo "are_cells") rfl)
  have c_are_cells := ok_are_cells (P := P) (w := w) (base := base) (T := T) M f_are_cells m_are_cells c_hangs c_held c_is_in TL_are_cells
  obtain ⟨fd_is_map, f_is_map⟩ := c.def_ 7 (d := df 17 "is_map") rfl
  have m_is_map := He.glo_ok KX G (c.fact 7 (f := .glo "is_map") rfl)
  have c_is_map := ok_is_map (P := P) (w := w) (base := base) (T := T) M f_is_map m_is_map c_are_cells c_is_in
  obtain ⟨fd_need_map, f_need_map⟩ := c.def_ 8 (d := df 18 "need_map") rfl
  have m_need_map := He.glo_ok KX G (c.fact 8 (f := .glo "need_map") rfl)
  have c_need_map := ok_need_map (P := P) (w := w) (base := base) (T := T) M f_need_map m_need_map c_is_map
  obtain ⟨fd_lands_of, f_lands_of⟩ := c.def_ 9 (d := df 19 "lands_of") rfl
  have m_lands_of := He.glo_ok KX G (c.fact 9 (f := .glo "lands_of") rfl)
  have c_lands_of := ok_lands_of (P := P) (w := w) (base := base) (T := T) M f_lands_of m_lands_of 
  obtain ⟨fd_is_made, f_is_made⟩ := c.def_ 10 (d := df 22 "is_made") rfl
  have m_is_made := He.glo_ok KX G (c.fact 10 (f := .glo "is_made") rfl)
  have c_is_made := ok_is_made (P := P) (w := w) (base := base) (T := T) M f_is_made m_is_made c_hangs c_held c_length_of c_near TL_is_made
  obtain ⟨fd_all_takings, f_all_takings⟩ := c.def_ 11 (d := df 23 "all_takings") rfl
  have m_all_takings := He.glo_ok KX G (c.fact 11 (f := .glo "all_takings") rfl)
  have c_all_takings := ok_all_takings (P := P) (w := w) (base := base) (T := T) M f_all_takings m_all_takings c_is_made c_lands_of
  obtain ⟨fd_taken, f_taken⟩ := c.def_ 12 (d := df 24 "taken") rfl
  have m_taken := He.glo_ok KX G (c.fact 12 (f := .glo "taken") rfl)
  have c_taken := ok_taken (P := P) (w := w) (base := base) (T := T) M f_taken m_taken 
  obtain ⟨fd_all_of_class, f_all_of_class⟩ := c.def_ 13 (d := df 26 "all_of_class") rfl
  have m_all_of_class := He.glo_ok KX G (c.fact 13 (f := .glo "all_of_class") rfl)
  have c_all_of_class := ok_all_of_class (P := P) (w := w) (base := base) (T := T) M f_all_of_class m_all_of_class c_all_takings c_taken
  obtain ⟨fd_are_values, f_are_values⟩ := c.def_ 14 (d := df 29 "are_values") rfl
  have m_are_values := He.glo_ok KX G (c.fact 14 (f := .glo "are_values") rfl)
  have c_are_values := ok_are_values (P := P) (w := w) (base := base) (T := T) M f_are_values m_are_values c_is_in TL_are_values
  obtain ⟨fd_need_valued, f_need_valued⟩ := c.def_ 15 (d := df 30 "need_valued") rfl
  have m_need_valued := He.glo_ok KX G (c.fact 15 (f := .glo "need_valued") rfl)
  have c_need_valued := ok_need_valued (P := P) (w := w) (base := base) (T := T) M f_need_valued m_need_valued c_are_values c_lands_of c_need_map
  obtain ⟨fd_worth_of, f_worth_of⟩ := c.def_ 16 (d := df 31 "worth_of") rfl
  have m_worth_of := He.glo_ok KX G (c.fact 16 (f := .glo "worth_of") rfl)
  have c_worth_of := ok_worth_of (P := P) (w := w) (base := base) (T := T) M f_worth_of m_worth_of  TL_worth_of
  obtain ⟨fd_worth, f_worth⟩ := c.def_ 17 (d := df 32 "worth") rfl
  have m_worth := He.glo_ok KX G (c.fact 17 (f := .glo "worth") rfl)
  have c_worth := ok_worth (P := P) (w := w) (base := base) (T := T) M f_worth m_worth c_need_valued c_worth_of
  obtain ⟨fd_best_of_class, f_best_of_class⟩ := c.def_ 18 (d := df 33 "best_of_class") rfl
  have m_best_of_class := He.glo_ok KX G (c.fact 18 (f := .glo "best_of_class") rfl)
  have c_best_of_class := ok_best_of_class (P := P) (w := w) (base := base) (T := T) M f_best_of_class m_best_of_class c_all_of_class c_worth_of
  obtain ⟨fd_best_in_class, f_best_in_class⟩ := c.def_ 19 (d := df 34 "best_in_class") rfl
  have m_best_in_class := He.glo_ok KX G (c.fact 19 (f := .glo "best_in_class") rfl)
  have c_best_in_class := ok_best_in_class (P := P) (w := w) (base := base) (T := T) M f_best_in_class m_best_in_class c_best_of_class c_need_valued
  obtain ⟨fd_shows_best_in_class, f_shows_best_in_class⟩ := c.def_ 20 (d := df 35 "shows_best_in_class") rfl
  have m_shows_best_in_class := He.glo_ok KX G (c.fact 20 (f := .glo "shows_best_in_class") rfl)
  have c_shows_best_in_class := ok_shows_best_in_class (P := P) (w := w) (base := base) (T := T) M f_shows_best_in_class m_shows_best_in_class c_all_of_class c_best_of_class c_is_in c_is_map c_need_valued c_worth_of
  obtain ⟨fd_need_all, f_need_all⟩ := c.def_ 21 (d := df 36 "need_all") rfl
  have m_need_all := He.glo_ok KX G (c.fact 21 (f := .glo "need_all") rfl)
  have c_need_all := ok_need_all (P := P) (w := w) (base := base) (T := T) M f_need_all m_need_all c_are_values c_need_island
  obtain ⟨fd_arm_bests, f_arm_bests⟩ := c.def_ 22 (d := df 37 "arm_bests") rfl
  have m_arm_bests := He.glo_ok KX G (c.fact 22 (f := .glo "arm_bests") rfl)
  have c_arm_bests := ok_arm_bests (P := P) (w := w) (base := base) (T := T) M f_arm_bests m_arm_bests 
  obtain ⟨fd_best_for_hub, f_best_for_hub⟩ := c.def_ 23 (d := df 38 "best_for_hub") rfl
  have m_best_for_hub := He.glo_ok KX G (c.fact 23 (f := .glo "best_for_hub") rfl)
  have c_best_for_hub := ok_best_for_hub (P := P) (w := w) (base := base) (T := T) M f_best_for_hub m_best_for_hub c_arm_bests TL_best_for_hub
  obtain ⟨fd_best_of_all, f_best_of_all⟩ := c.def_ 24 (d := df 39 "best_of_all") rfl
  have m_best_of_all := He.glo_ok KX G (c.fact 24 (f := .glo "best_of_all") rfl)
  have c_best_of_all := ok_best_of_all (P := P) (w := w) (base := base) (T := T) M f_best_of_all m_best_of_all c_best_for_hub
  obtain ⟨fd_best_map, f_best_map⟩ := c.def_ 25 (d := df 40 "best_map") rfl
  have m_best_map := He.glo_ok KX G (c.fact 25 (f := .glo "best_map") rfl)
  have c_best_map := ok_best_map (P := P) (w := w) (base := base) (T := T) M f_best_map m_best_map c_best_of_all c_need_all
  obtain ⟨fd_shows_best_map, f_shows_best_map⟩ := c.def_ 26 (d := df 41 "shows_best_map") rfl
  have m_shows_best_map := He.glo_ok KX G (c.fact 26 (f := .glo "shows_best_map") rfl)
  have c_shows_best_map := ok_shows_best_map (P := P) (w := w) (base := base) (T := T) M f_shows_best_map m_shows_best_map c_best_of_all c_is_in c_is_map c_lands_of c_length_of c_need_all c_worth_of
  obtain ⟨fd_climb, f_climb⟩ := c.def_ 27 (d := df 42 "climb") rfl
  have m_climb := He.glo_ok KX G (c.fact 27 (f := .glo "climb") rfl)
  have c_climb := ok_climb (P := P) (w := w) (base := base) (T := T) M f_climb m_climb c_all_takings c_need_valued c_taken c_worth_of
  obtain ⟨fd__law_near, f__law_near⟩ := c.def_ 31 (d := df 47 "_law_near") rfl
  have m__law_near := He.glo_ok KX G (c.fact 31 (f := .glo "_law_near") rfl)
  have c__law_near := ok__law_near (P := P) (w := w) (base := base) (T := T) M f__law_near m__law_near 
  obtain ⟨fd__law_hangs, f__law_hangs⟩ := c.def_ 32 (d := df 48 "_law_hangs") rfl
  have m__law_hangs := He.glo_ok KX G (c.fact 32 (f := .glo "_law_hangs") rfl)
  have c__law_hangs := ok__law_hangs (P := P) (w := w) (base := base) (T := T) M f__law_hangs m__law_hangs c__law_near
  obtain ⟨fd__law_takings, f__law_takings⟩ := c.def_ 34 (d := df 50 "_law_takings") rfl
  have m__law_takings := He.glo_ok KX G (c.fact 34 (f := .glo "_law_takings") rfl)
  have c__law_takings := ok__law_takings (P := P) (w := w) (base := base) (T := T) M f__law_takings m__law_takings c__law_hangs c__law_near
  obtain ⟨fd__law_behind, f__law_behind⟩ := c.def_ 35 (d := df 51 "_law_behind") rfl
  have m__law_behind := He.glo_ok KX G (c.fact 35 (f := .glo "_law_behind") rfl)
  have c__law_behind := ok__law_behind (P := P) (w := w) (base := base) (T := T) M f__law_behind m__law_behind 
  obtain ⟨fd__law_from, f__law_from⟩ := c.def_ 36 (d := df 52 "_law_from") rfl
  have m__law_from := He.glo_ok KX G (c.fact 36 (f := .glo "_law_from") rfl)
  have c__law_from := ok__law_from (P := P) (w := w) (base := base) (T := T) M f__law_from m__law_from c__law_behind c__law_takings
  obtain ⟨fd__law_worth, f__law_worth⟩ := c.def_ 38 (d := df 56 "_law_worth") rfl
  have m__law_worth := He.glo_ok KX G (c.fact 38 (f := .glo "_law_worth") rfl)
  have c__law_worth := ok__law_worth (P := P) (w := w) (base := base) (T := T) M f__law_worth m__law_worth 
  obtain ⟨fd__law_maps, f__law_maps⟩ := c.def_ 39 (d := df 57 "_law_maps") rfl
  have m__law_maps := He.glo_ok KX G (c.fact 39 (f := .glo "_law_maps") rfl)
  have c__law_maps := ok__law_maps (P := P) (w := w) (base := base) (T := T) M f__law_maps m__law_maps 
  obtain ⟨fd__law_alike, f__law_alike⟩ := c.def_ 30 (d := df 46 "_law_alike") rfl
  have m__law_alike := He.glo_ok KX G (c.fact 30 (f := .glo "_law_alike") rfl)
  have c__law_alike := ok__law_alike (P := P) (w := w) (base := base) (T := T) M f__law_alike m__law_alike 4
  obtain ⟨fd__law_taken, f__law_taken⟩ := c.def_ 28 (d := df 44 "_law_taken") rfl
  have m__law_taken := He.glo_ok KX G (c.fact 28 (f := .glo "_law_taken") rfl)
  have c__law_taken := ok_ltaken (P := P) (w := w) (base := base) (T := T) M f__law_taken m__law_taken
  obtain ⟨fd__law_pick, f__law_pick⟩ := c.def_ 29 (d := df 45 "_law_pick") rfl
  have m__law_pick := He.glo_ok KX G (c.fact 29 (f := .glo "_law_pick") rfl)
  have c__law_pick := ok__law_pick (P := P) (w := w) (base := base) (T := T) M f__law_pick m__law_pick c__law_taken
  obtain ⟨fd__law_map, f__law_map⟩ := c.def_ 33 (d := df 49 "_law_map") rfl
  have m__law_map := He.glo_ok KX G (c.fact 33 (f := .glo "_law_map") rfl)
  have c__law_map := ok__law_map (P := P) (w := w) (base := base) (T := T) M f__law_map m__law_map c__law_pick
  obtain ⟨fd__law_table, f__law_table⟩ := c.def_ 37 (d := df 55 "_law_table") rfl
  have m__law_table := He.glo_ok KX G (c.fact 37 (f := .glo "_law_table") rfl)
  have c__law_table := ok__law_table (P := P) (w := w) (base := base) (T := T) M f__law_table m__law_table c__law_taken
  exact ok_law hp M F c__law_alike c__law_behind c__law_from c__law_map c__law_maps c__law_table c__law_taken c__law_takings c__law_worth c_best_in_class c_best_map c_climb c_shows_best_in_class c_shows_best_map c_worth
end K08
end

section
set_option Elab.async false
set_option linter.all false
set_option maxRecDepth 100000
set_option maxHeartbeats 0
open PySem PySem.W PySem.Calls PyProof.Rows
namespace K08
open PySem PySem.Spec PyProof.Rows L2 FD
theorem holds_of (hp : ∀ r : Addr, w_law (envLaw r) fun o => o = .rt (dB true)) : PySem.Challenge.rw_starlands_k08_whole_worths.Holds := by
  w_on; o_law
  refine HandSHeadRun.head_any (r := PySem.W.OpenLaw.row PySem.Challenge.rw_starlands_k08_whole_worths) (q := PySem.W.view (PySem.W.OpenLaw.row PySem.Challenge.rw_starlands_k08_whole_worths).prog [58]) (H := K08.hk) (ob := K08.ob) (M := 6000) (loose := K08.names) (d := HandSHeadRun.topDef (PySem.W.OpenLaw.row PySem.Challenge.rw_starlands_k08_whole_worths).prog 58) (kwd := []) K08.ob_eq
    (by kernel_rfl) (fun s => by kernel_rfl) K08.run (by kernel_rfl) (by kernel_rfl) (by kernel_rfl) (by rfl) (by first | assumption | decide +kernel) (by decide +kernel) ⟨rfl, rfl, rfl, rfl, rfl, by decide +kernel⟩ ?hw ?hc
  case hw => w_witness2
  case hc =>
    refine LamX.walk_ofTsE (l := PySem.Challenge.rw_starlands_k08_whole_worths) (n := 63) (k := 32) (x := "_law_script") (CX := fun _ => C8.CX0) rfl (by decide) (by kernel_rfl) ⟨rfl, by decide, by decide⟩ ?F (fun _ _ _ _ _ z => z)
    intro w mg fa h Y G hmg0
    obtain ⟨K, KX, c⟩ := Y
    have hmg : mg ("law" : PySem.Str) = some (.ref fa) := by
      have e : (HandSHeadRun.topDef (PySem.W.OpenLaw.row PySem.Challenge.rw_starlands_k08_whole_worths).prog 58).name = ("law" : PySem.Str) := by kernel_rfl
      rw [← e]
      exact hmg0
    have d := c.t.d
    obtain ⟨fd, F⟩ := d.def_ 40 (d := df 58 "law") rfl
    have e := hmg.symm.trans (He.glo_ok KX G (d.fact 40 (f := .glo "law") rfl))
    cases e
    have b := FunD.bindsA (ps := ["_law_script"]) F fun _ _ _ _ _ _ us hl => match us, hl with | [_], _ => rfl
    refine ⟨K, KX, fd, tf.map (He.cT K), spLaw K ((tf.map (He.cT K)).map (·.2)), fun p hp => ?_, fun p hp => ?_, fun p hp => ?_, fun s u => b s [u] rfl, fun H a ns hl _ hT hS => ?_, fun base hK hB hTB => ?_⟩
    · obtain ⟨q, hq, rfl⟩ := List.mem_map.mp hp
      exact c.empty q hq
    · obtain ⟨q, hq, rfl⟩ := List.mem_map.mp hp
      exact c.out q hq
    · obtain ⟨q, hq, rfl⟩ := List.mem_map.mp hp
      exact PySem.W.codeHd_of_K KX (c.hd q hq)
    · refine ⟨a, ns, rfl, by omega, hS, fun Pt hPt => ?_, fun H2 => rfl⟩
      obtain ⟨p, hp, rfl⟩ := List.mem_map.mp hPt
      exact hT p hp
    · refine law_facts hp KX G d base (fun p hp => List.mem_map.mpr ⟨He.cT K p, List.mem_map.mpr ⟨p, hp, rfl⟩, rfl⟩) (fun p hp => let t := hTB _ (List.mem_map.mpr ⟨p, hp, rfl⟩); ⟨t.code, t.bm, t.gP⟩) F
end K08
end

section
set_option Elab.async false
set_option linter.all false
set_option maxRecDepth 100000
set_option maxHeartbeats 0
/-! M1: the charts, and what the kernel computes of each. -/
namespace K08
open PySem FD
def iD (n : Nat) : PyData := .int (n : Int)
def tuN (l : List Nat) : PyData := .tuple (l.map iD)
def chP (a : Nat) (l : List Nat) : PyData := .tuple [iD a, tuN l]
def chD (a : Nat) (l : List Nat) : DV := .dat (chP a l)
mutual
def sameD : PyData → PyData → Bool
  | .none, .none => true
  | .bool a, .bool b => a == b
  | .int a, .int b => decide (a = b)
  | .list l, .list m => sameL l m
  | .tuple l, .tuple m => sameL l m
  | _, _ => false
def sameL : List PyData → List PyData → Bool
  | [], [] => true
  | x :: l, y :: m => sameD x y && sameL l m
  | _, _ => false
end
mutual
theorem sameD_eq : ∀ {x y : PyData}, sameD x y = true → x = y
  | .none, y, h => by cases y <;> first | rfl | cases h
  | .bool a, y, h => by
    cases y with
    | bool b => exact congrArg PyData.bool (beq_iff_eq.mp h)
    | _ => cases h
  | .int a, y, h => by
    cases y with
    | int b => exact congrArg PyData.int (of_decide_eq_true h)
    | _ => cases h
  | .str a, y, h => by cases y <;> cases h
  | .list l, y, h => by
    cases y with
    | list m => exact congrArg PyData.list (sameL_eq h)
    | _ => cases h
  | .tuple l, y, h => by
    cases y with
    | tuple m => exact congrArg PyData.tuple (sameL_eq h)
    | _ => cases h
  | .dict l, y, h => by cases y <;> cases h
theorem sameL_eq : ∀ {l m : List PyData}, sameL l m = true → l = m
  | [], [], _ => rfl
  | [], _ :: _, h => by cases h
  | _ :: _, [], h => by cases h
  | x :: l, y :: m, h => by
    have h : (sameD x y && sameL l m) = true := h
    rw [Bool.and_eq_true] at h
    rw [sameD_eq h.1, sameL_eq h.2]
end
/-- the result is this data -/
def isD (r : Option DV) (d : PyData) : Bool := match r with
  | some (.dat x) => sameD x d
  | _ => false
theorem isD_eq {r : Option DV} {d : PyData} (h : isD r d = true) : r = some (.dat d) := by
  unfold isD at h
  split at h
  · rw [sameD_eq h]
  · cases h
/-! the charts -/
def innerN (l cell : Nat) (one : List Nat) : Option Nat := if cell = 0 then none else if (cell - 1) % l = 0 then one[0]? else one[cell - 1]?
def stepN (l k cell : Nat) (found : List (List Nat)) : List (List Nat) := found.flatMap fun one => (List.range k).filterMap fun land => if innerN l cell one = some land ∨ land ∉ one then some (one ++ [land]) else none
def mapsN (a l k : Nat) : List (List Nat) := ((List.range (a * l + 1)).foldl (fun found cell => stepN l k cell found) [[]]).filter fun one => (List.range k).all fun land => decide (land ∈ one)
def pairD (p : Nat × Nat) : PyData := .tuple [iD p.1, iD p.2]
/-- the takings, as pairs -/
def nearN (a l cell : Nat) : List Nat := if cell = 0 then (List.range a).map fun i => 1 + i * l else (if (cell - 1) % l = 0 then [0] else [cell - 1]) ++ (if (cell - 1) % l + 1 < l then [cell + 1] else [])
def growN (a l : Nat) (some : List Nat) : Nat → List Nat → List Nat
  | 0, seen => seen
  | n + 1, seen => growN a l some n (seen ++ (some.filter fun c => decide (c ∉ seen) && (nearN a l c).any fun d => decide (d ∈ seen)))
def hangsN (a l : Nat) (some : List Nat) : Bool := match some with
  | [] => false
  | c :: _ => (growN a l some some.length [c]).length == some.length
def madeN (a l : Nat) (cs : List Nat) (land cell : Nat) : Bool := match cs[cell]? with
  | none => false
  | some other => decide (other ≠ land) && ((nearN a l cell).any (fun d => cs[d]? == some land) && hangsN a l ((List.range cs.length).filter fun d => decide (cs[d]? = some other) && decide (d ≠ cell)))
def takN (a l k : Nat) (cs : List Nat) : List (Nat × Nat) := (List.range k).flatMap fun land => ((List.range cs.length).filter fun cell => madeN a l cs land cell).map fun cell => (land, cell)
def dims : List (Nat × Nat × Nat) := [(3, 1, 2), (4, 1, 2), (3, 2, 2), (4, 2, 2), (3, 2, 3), (4, 2, 3)]
def chkTak (a l k : Nat) : Bool := (mapsN a l k).all fun cs => isD (F_all_takings [chD a cs]) (.list ((takN a l k cs).map pairD))
def chkTak2 (a l k : Nat) : Bool := (mapsN a l k).all fun cs => isD (F__law_takings [chD a cs]) (.list ((takN a l k cs).map pairD))
def chkMap (a l k : Nat) : Bool := (mapsN a l k).all fun cs => isD (F_is_map [chD a cs]) (.bool true) && isD (F_lands_of [chD a cs]) (iD k) && isD (F_length_of [chD a cs]) (iD l)
def chkIn (a l k : Nat) : Bool := (mapsN a l k).all fun cs => (takN a l k cs).all fun t => decide (cs.set t.2 t.1 ∈ mapsN a l k)
def chkAll (a l k : Nat) : Bool := isD (F__law_maps [.dat (iD a), .dat (iD l), .dat (iD k)]) (.list ((mapsN a l k).map (chP a)))
end K08
end

section
set_option Elab.async false
set_option linter.all false
set_option maxRecDepth 100000
set_option maxHeartbeats 0
/-! MT: the law's takings, with a table of neighbours: the same function. -/
namespace K08
open PySem FD
def nearT : List (Nat × Nat × Nat) := [(3, 1), (4, 1), (3, 2), (4, 2)].flatMap fun d => (List.range (d.1 * d.2 + 1)).map fun c => (d.1, d.2, c)
theorem okNear : (nearT.all fun t => isD (F__law_near [.dat (iD t.1), .dat (iD t.2.1), .dat (iD t.2.2)]) (.list ((nearN t.1 t.2.1 t.2.2).map iD))) = true := by kernel_rfl
def nearL (a l c : Nat) : Option DV := some (.dat (.list ((nearN a l c).map iD)))
def nearF : List DV → Option DV
  | [.dat (.int (.ofNat a)), .dat (.int (.ofNat l)), .dat (.int (.ofNat c))] => if ((Nat.beq a 3 || Nat.beq a 4) && ((Nat.beq l 1 || Nat.beq l 2) && Nat.ble c (a * l))) = true then nearL a l c else F__law_near [.dat (.int (.ofNat a)), .dat (.int (.ofNat l)), .dat (.int (.ofNat c))]
  | xs => F__law_near xs
theorem nearF_eq : F__law_near = nearF := by
  funext xs
  unfold nearF
  split
  · rename_i a l c
    split
    · rename_i h
      simp only [Bool.and_eq_true, Bool.or_eq_true, Nat.beq_eq, Nat.ble_eq] at h
      have hm : (a, l, c) ∈ nearT := by
        obtain ⟨ha, hl, hc⟩ := h
        unfold nearT
        rw [List.mem_flatMap]
        refine ⟨(a, l), ?_, List.mem_map.mpr ⟨c, List.mem_range.mpr (Nat.lt_succ_of_le hc), rfl⟩⟩
        rcases ha with rfl | rfl <;> rcases hl with rfl | rfl <;> simp
      have h2 := List.all_eq_true.mp okNear _ hm
      exact isD_eq h2
    · rfl
  · rfl
def g_hangsT : DE → Option Out := (sSeq (sTup [3, 4] (eTupL (lCons (eSl (eVar 2) pN (pS (eC (.int 1)))) (lCons (eSl (eVar 2) pN (pS (eC (.int 1)))) lNil)))) (sSeq (sWhile (eTru (e2 dNe (eVar 4) (eLstL lNil))) (sClr [5, 6] (sSeq (sSet false 5 (eLstL lNil)) (sSeq (sFor (iSeq (eVar 4)) (gtN 6) (sClr [6] (sSeq (sSet false 5 (e2 dAdd (eVar 5) (eLc [7] (iSeq (eCall nearF (aCons (eVar 0) (aCons (eVar 1) (aCons (eVar 6) aNil))))) (gtN 7) (tAndF (eTru (e2 (dIn false) (eVar 7) (eVar 2))) (tAndF (eTru (e2 (dIn true) (eVar 7) (eVar 3))) (eTru (e2 (dIn true) (eVar 7) (eVar 5))))) (eVar 7)))) sNil))) (sSeq (sTup [3, 4] (eTupL (lCons (e2 dAdd (eVar 3) (eVar 5)) (lCons (eVar 5) lNil)))) sNil)))) 200) (sSeq (sRet (eAnd (e2 dNe (eVar 2) (eLstL lNil)) (e2 dEq (e1 dLen (eVar 3)) (e1 dLen (eVar 2))))) sNil)))
def hangsT : List DV → Option DV := fnF 8 g_hangsT
theorem hangsT_eq : F__law_hangs = hangsT := by
  unfold F__law_hangs hangsT g__law_hangs g_hangsT
  rw [nearF_eq]
def g_takT : DE → Option Out := (sSeq (sTup [2, 3] (eVar 0)) (sSeq (sPar false 4 true 5 (aCons (e2 dFdiv (e2 dSub (e1 dLen (eVar 3)) (eC (.int 1))) (eVar 2)) (aCons (eLstL lNil) aNil))) (sSeq (sFor (iRange (e2 dAdd (e1 dMax (eVar 3)) (eC (.int 1)))) (gtN 1) (sClr [1, 6, 7, 8] (sSeq (sFor (iRange (e1 dLen (eVar 3))) (gtN 6) (sClr [6, 7, 8] (sSeq (sSet false 7 (e2 dIx (eVar 3) (eVar 6))) (sSeq (sIf (tAndF (eTru (e2 dNe (eVar 7) (eVar 1))) (eTru (e2 dNe (eLc [9] (iSeq (eCall nearF (aCons (eVar 2) (aCons (eVar 4) (aCons (eVar 6) aNil))))) (gtN 9) (eTru (e2 dEq (e2 dIx (eVar 3) (eVar 9)) (eVar 1))) (eVar 9)) (eLstL lNil)))) (sSeq (sSet false 8 (eLc [9] (iRange (e1 dLen (eVar 3))) (gtN 9) (tAndF (eTru (e2 dEq (e2 dIx (eVar 3) (eVar 9)) (eVar 7))) (eTru (e2 dNe (eVar 9) (eVar 6)))) (eVar 9))) (sSeq (sIf (tAndF (eTru (e2 dNe (eVar 8) (eLstL lNil))) (eTru (eCall hangsT (aCons (eVar 2) (aCons (eVar 4) (aCons (eVar 8) aNil)))))) (sSeq (sApp 5 (eTupL (lCons (eVar 1) (lCons (eVar 6) lNil)))) sNil) sNil) sNil)) sNil) sNil)))) sNil))) (sSeq (sRetO 5) sNil))))
def takT : List DV → Option DV := fnF 10 g_takT
theorem takT_eq : F__law_takings = takT := by
  unfold F__law_takings takT g__law_takings g_takT
  rw [nearF_eq, hangsT_eq]
end K08
end

section
set_option Elab.async false
set_option linter.all false
set_option maxRecDepth 100000
set_option maxHeartbeats 0
/-! MK: what the kernel finds on all charts. -/
namespace K08
open PySem FD
def chk1 (a l k : Nat) (cs : List Nat) : Bool :=
  (decide (cs.length = a * l + 1) && cs.all fun c => decide (c < k)) &&
  (isD (F_is_map [chD a cs]) (.bool true) && (isD (F_lands_of [chD a cs]) (iD k) && (isD (F_length_of [chD a cs]) (iD l) &&
  (isD (F_all_takings [chD a cs]) (.list ((takN a l k cs).map pairD)) && (isD (takT [chD a cs]) (.list ((takN a l k cs).map pairD)) &&
  (takN a l k cs).all fun t => isD (F_taken [chD a cs, .dat (pairD t)]) (chP a (cs.set t.2 t.1)) && isD (F__law_behind [chD a cs, .dat (pairD t)]) (chP a (cs.set t.2 t.1)))))))
def chunk (a l k i : Nat) : List (List Nat) := ((mapsN a l k).drop (15 * i)).take 15
def chkNo (a l : Nat) : Bool := isD (F_is_map [.dat (chP a [])]) (.bool false) && isD (F_is_map [.dat (chP a (List.replicate (a * l + 1) 0))]) (.bool false)
def chkIn2 (a l k : Nat) : Bool := (mapsN a l k).all fun cs => (takN a l k cs).all fun t => (mapsN a l k).any fun x => x == cs.set t.2 t.1
theorem ck312_0 : ((chunk 3 1 2 0).all fun cs => chk1 3 1 2 cs) = true := by kernel_rfl
theorem ckl312 : Nat.ble (mapsN 3 1 2).length 15 = true := by kernel_rfl
theorem cka312 : (isD (F__law_maps [.dat (iD 3), .dat (iD 1), .dat (iD 2)]) (.list ((mapsN 3 1 2).map (chP 3)))) = true := by kernel_rfl
theorem ckn312 : chkNo 3 1 = true := by kernel_rfl
theorem cki312 : chkIn2 3 1 2 = true := by kernel_rfl
theorem ck412_0 : ((chunk 4 1 2 0).all fun cs => chk1 4 1 2 cs) = true := by kernel_rfl
theorem ckl412 : Nat.ble (mapsN 4 1 2).length 15 = true := by kernel_rfl
theorem cka412 : (isD (F__law_maps [.dat (iD 4), .dat (iD 1), .dat (iD 2)]) (.list ((mapsN 4 1 2).map (chP 4)))) = true := by kernel_rfl
theorem ckn412 : chkNo 4 1 = true := by kernel_rfl
theorem cki412 : chkIn2 4 1 2 = true := by kernel_rfl
theorem ck322_0 : ((chunk 3 2 2 0).all fun cs => chk1 3 2 2 cs) = true := by kernel_rfl
theorem ckl322 : Nat.ble (mapsN 3 2 2).length 15 = true := by kernel_rfl
theorem cka322 : (isD (F__law_maps [.dat (iD 3), .dat (iD 2), .dat (iD 2)]) (.list ((mapsN 3 2 2).map (chP 3)))) = true := by kernel_rfl
theorem ckn322 : chkNo 3 2 = true := by kernel_rfl
theorem cki322 : chkIn2 3 2 2 = true := by kernel_rfl
theorem ck422_0 : ((chunk 4 2 2 0).all fun cs => chk1 4 2 2 cs) = true := by kernel_rfl
theorem ck422_1 : ((chunk 4 2 2 1).all fun cs => chk1 4 2 2 cs) = true := by kernel_rfl
theorem ckl422 : Nat.ble (mapsN 4 2 2).length 30 = true := by kernel_rfl
theorem cka422 : (isD (F__law_maps [.dat (iD 4), .dat (iD 2), .dat (iD 2)]) (.list ((mapsN 4 2 2).map (chP 4)))) = true := by kernel_rfl
theorem ckn422 : chkNo 4 2 = true := by kernel_rfl
theorem cki422 : chkIn2 4 2 2 = true := by kernel_rfl
theorem ck323_0 : ((chunk 3 2 3 0).all fun cs => chk1 3 2 3 cs) = true := by kernel_rfl
theorem ck323_1 : ((chunk 3 2 3 1).all fun cs => chk1 3 2 3 cs) = true := by kernel_rfl
theorem ck323_2 : ((chunk 3 2 3 2).all fun cs => chk1 3 2 3 cs) = true := by kernel_rfl
theorem ck323_3 : ((chunk 3 2 3 3).all fun cs => chk1 3 2 3 cs) = true := by kernel_rfl
theorem ck323_4 : ((chunk 3 2 3 4).all fun cs => chk1 3 2 3 cs) = true := by kernel_rfl
theorem ck323_5 : ((chunk 3 2 3 5).all fun cs => chk1 3 2 3 cs) = true := by kernel_rfl
theorem ckl323 : Nat.ble (mapsN 3 2 3).length 90 = true := by kernel_rfl
theorem cka323 : (isD (F__law_maps [.dat (iD 3), .dat (iD 2), .dat (iD 3)]) (.list ((mapsN 3 2 3).map (chP 3)))) = true := by kernel_rfl
theorem ckn323 : chkNo 3 2 = true := by kernel_rfl
theorem cki323 : chkIn2 3 2 3 = true := by kernel_rfl
theorem ck423_0 : ((chunk 4 2 3 0).all fun cs => chk1 4 2 3 cs) = true := by kernel_rfl
theorem ck423_1 : ((chunk 4 2 3 1).all fun cs => chk1 4 2 3 cs) = true := by kernel_rfl
theorem ck423_2 : ((chunk 4 2 3 2).all fun cs => chk1 4 2 3 cs) = true := by kernel_rfl
theorem ck423_3 : ((chunk 4 2 3 3).all fun cs => chk1 4 2 3 cs) = true := by kernel_rfl
theorem ck423_4 : ((chunk 4 2 3 4).all fun cs => chk1 4 2 3 cs) = true := by kernel_rfl
theorem ck423_5 : ((chunk 4 2 3 5).all fun cs => chk1 4 2 3 cs) = true := by kernel_rfl
theorem ck423_6 : ((chunk 4 2 3 6).all fun cs => chk1 4 2 3 cs) = true := by kernel_rfl
theorem ck423_7 : ((chunk 4 2 3 7).all fun cs => chk1 4 2 3 cs) = true := by kernel_rfl
theorem ck423_8 : ((chunk 4 2 3 8).all fun cs => chk1 4 2 3 cs) = true := by kernel_rfl
theorem ck423_9 : ((chunk 4 2 3 9).all fun cs => chk1 4 2 3 cs) = true := by kernel_rfl
theorem ck423_10 : ((chunk 4 2 3 10).all fun cs => chk1 4 2 3 cs) = true := by kernel_rfl
theorem ck423_11 : ((chunk 4 2 3 11).all fun cs => chk1 4 2 3 cs) = true := by kernel_rfl
theorem ckl423 : Nat.ble (mapsN 4 2 3).length 180 = true := by kernel_rfl
theorem cka423 : (isD (F__law_maps [.dat (iD 4), .dat (iD 2), .dat (iD 3)]) (.list ((mapsN 4 2 3).map (chP 4)))) = true := by kernel_rfl
theorem ckn423 : chkNo 4 2 = true := by kernel_rfl
theorem cki423 : chkIn2 4 2 3 = true := by kernel_rfl
end K08
end

section
set_option Elab.async false
set_option linter.all false
set_option maxRecDepth 100000
set_option maxHeartbeats 4000000
/-! M2: comprehensions as maps, the greatest of parts, depth and likeness of charts. -/
namespace K08
open PySem FD
theorem lc_map {j : Nat} {te : DE → Option DV} {env : DE} (f : PyData → PyData) : ∀ {ds : List PyData}, (∀ d ∈ ds, te ((wipeD env [j]).set j (some (false, .dat d))) = some (.dat (f d))) → lcGo [j] (gtN j) tYesF te env ds = some (ds.map f)
  | [], _ => rfl
  | d :: ds, h => by
    unfold lcGo
    simp only [gtN, tYesF, Option.bind_some, if_true]
    rw [h d (List.mem_cons_self ..), lc_map f fun e he => h e (List.mem_cons_of_mem _ he)]
    rfl
theorem lc_filter {j : Nat} {tt : DE → Option Bool} {te : DE → Option DV} {env : DE} (p : PyData → Bool) (f : PyData → PyData) : ∀ {ds : List PyData}, (∀ d ∈ ds, tt ((wipeD env [j]).set j (some (false, .dat d))) = some (p d)) → (∀ d ∈ ds, p d = true → te ((wipeD env [j]).set j (some (false, .dat d))) = some (.dat (f d))) →
    lcGo [j] (gtN j) tt te env ds = some ((ds.filter p).map f)
  | [], _, _ => rfl
  | d :: ds, h, h2 => by
    unfold lcGo
    simp only [gtN, Option.bind_some]
    rw [h d (List.mem_cons_self ..)]
    have ih := lc_filter p f (fun e he => h e (List.mem_cons_of_mem _ he)) fun e he => h2 e (List.mem_cons_of_mem _ he)
    simp only [Option.bind_some]
    cases hp : p d with
    | true =>
      rw [if_pos rfl, h2 d (List.mem_cons_self ..) hp, ih]
      simp [hp]
    | false =>
      rw [if_neg Bool.false_ne_true, ih]
      simp [hp]
/-! likeness, depth -/
theorem alike_int (i j : Int) : PySem.W.alike (.int i) (.int j) = true := by simp only [PySem.W.alike]
theorem alike_tuN : ∀ l m : List Nat, PySem.W.alikeAll (l.map iD) (m.map iD) = true
  | [], _ => by simp only [List.map_nil, PySem.W.alikeAll]
  | _ :: _, [] => by simp only [List.map_nil, List.map_cons, PySem.W.alikeAll]
  | x :: l, y :: m => by
    rw [List.map_cons, List.map_cons, PySem.W.alikeAll, alike_tuN l m]
    simp only [iD, alike_int, Bool.and_self]
theorem alike_tu (l m : List Nat) : PySem.W.alike (tuN l) (tuN m) = true := by
  unfold tuN
  rw [PySem.W.alike]
  exact alike_tuN l m
theorem alike_ch (a b : Nat) (l m : List Nat) : PySem.W.alike (chP a l) (chP b m) = true := by
  unfold chP
  rw [PySem.W.alike, PySem.W.alikeAll, PySem.W.alikeAll, PySem.W.alikeAll, alike_tu]
  simp only [iD, alike_int, Bool.and_self]
theorem depthAll_iD : ∀ l : List Nat, PyData.depthAll (l.map iD) = 0
  | [] => rfl
  | x :: l => by rw [List.map_cons, PyData.depthAll, depthAll_iD l]; rfl
theorem depth_tu (l : List Nat) : (tuN l).depth = 1 := by
  unfold tuN
  rw [PyData.depth, depthAll_iD]
theorem depth_ch (a : Nat) (l : List Nat) : (chP a l).depth = 2 := by
  unfold chP
  rw [PyData.depth, PyData.depthAll, PyData.depthAll, PyData.depthAll, depth_tu]
  rfl
/-! parts: (worth, what) -/
def partD (p : Int × PyData) : PyData := .tuple [.int p.1, p.2]
theorem part_lt {p q : Int × PyData} (h : PySem.W.alike p.2 q.2 = true) : (PySem.W.dataLt (partD p) (partD q) = true → p.1 ≤ q.1) ∧ (PySem.W.dataLt (partD p) (partD q) = false → q.1 ≤ p.1) := by
  unfold partD
  rw [PySem.W.dataLt_pair (alike_int _ _) h, PySem.W.dataLt_int]
  have e : PyData.eqv (.int p.1) (.int q.1) = decide (p.1 = q.1) := by simp [PyData.eqv]; rfl
  rw [e]
  by_cases h1 : p.1 = q.1
  · exact ⟨fun _ => by omega, fun _ => by omega⟩
  · rw [if_neg (by simpa using h1)]
    refine ⟨fun h => ?_, fun h => ?_⟩
    · have := of_decide_eq_true h; omega
    · have := of_decide_eq_false h; omega
theorem maxD_parts : ∀ (ps : List (Int × PyData)) (p : Int × PyData), (∀ x ∈ p :: ps, ∀ y ∈ p :: ps, PySem.W.alike x.2 y.2 = true) → ∃ m ∈ p :: ps, PySem.W.maxD (partD p) (ps.map partD) = partD m ∧ ∀ x ∈ p :: ps, x.1 ≤ m.1
  | [], p, _ => ⟨p, by simp, rfl, fun x hx => by rw [List.mem_singleton.mp hx]; exact Int.le_refl _⟩
  | q :: ps, p, h => by
    have step : PySem.W.maxD (partD p) ((q :: ps).map partD) = PySem.W.maxD (if PySem.W.dataLt (partD p) (partD q) then partD q else partD p) (ps.map partD) := rfl
    rw [step]
    obtain ⟨l1, l2⟩ := part_lt (h p (by simp) q (by simp))
    cases e : PySem.W.dataLt (partD p) (partD q) with
    | true =>
      rw [if_pos rfl]
      obtain ⟨m, hm, e1, e2⟩ := maxD_parts ps q fun x hx y hy => h x (List.mem_cons_of_mem _ hx) y (List.mem_cons_of_mem _ hy)
      refine ⟨m, List.mem_cons_of_mem _ hm, e1, fun x hx => ?_⟩
      rcases List.mem_cons.mp hx with rfl | hx
      · exact Int.le_trans (l1 e) (e2 q (by simp))
      · exact e2 x hx
    | false =>
      rw [if_neg Bool.false_ne_true]
      obtain ⟨m, hm, e1, e2⟩ := maxD_parts ps p fun x hx y hy => h x (by rcases List.mem_cons.mp hx with rfl | hx <;> simp [*]) y (by rcases List.mem_cons.mp hy with rfl | hy <;> simp [*])
      refine ⟨m, by rcases List.mem_cons.mp hm with rfl | hm <;> simp [*], e1, fun x hx => ?_⟩
      rcases List.mem_cons.mp hx with rfl | hx
      · exact e2 x (by simp)
      · rcases List.mem_cons.mp hx with rfl | hx
        · exact Int.le_trans (l2 e) (e2 p (by simp))
        · exact e2 x (List.mem_cons_of_mem _ hx)
theorem parts_ok {ps : List (Int × PyData)} (h : ∀ x ∈ ps, ∀ y ∈ ps, PySem.W.alike x.2 y.2 = true) (hd : ∀ x ∈ ps, x.2.depth ≤ 20) : maxOk (ps.map partD) = true := by
  have h1 : allAlike (ps.map partD) = true := by
    unfold allAlike
    rw [List.all_eq_true]
    intro x hx
    rw [List.all_eq_true]
    intro y hy
    obtain ⟨p, hp, rfl⟩ := List.mem_map.mp hx
    obtain ⟨q, hq, rfl⟩ := List.mem_map.mp hy
    unfold partD
    rw [PySem.W.alike, PySem.W.alikeAll, PySem.W.alikeAll, PySem.W.alikeAll, h p hp q hq, alike_int]
    rfl
  have h2 : noNone (ps.map partD) = true := by
    unfold noNone
    rw [List.all_eq_true]
    intro x hx
    obtain ⟨p, hp, rfl⟩ := List.mem_map.mp hx
    rfl
  have h3 : PyData.depthAll (ps.map partD) ≤ 40 := by
    have : ∀ qs : List (Int × PyData), (∀ x ∈ qs, x.2.depth ≤ 20) → PyData.depthAll (qs.map partD) ≤ 21 := fun qs => by
      induction qs with
      | nil => intro _; exact Nat.zero_le _
      | cons q r ih =>
        intro hq
        rw [List.map_cons, PyData.depthAll]
        have h1 := ih fun x hx => hq x (List.mem_cons_of_mem _ hx)
        have h2 : (partD q).depth ≤ 21 := by
          unfold partD
          rw [PyData.depth, PyData.depthAll, PyData.depthAll, PyData.depthAll]
          have := hq q (by simp)
          have e : (PyData.int q.1).depth = 0 := rfl
          omega
        omega
    have := this ps hd
    omega
  unfold maxOk
  rw [h1, h2, decide_eq_true h3]
  simp
theorem max_parts {ps : List (Int × PyData)} (hne : ps ≠ []) (h : ∀ x ∈ ps, ∀ y ∈ ps, PySem.W.alike x.2 y.2 = true) (hd : ∀ x ∈ ps, x.2.depth ≤ 20) : ∃ m ∈ ps, dMax (.dat (.list (ps.map partD))) = some (.dat (partD m)) ∧ ∀ x ∈ ps, x.1 ≤ m.1 := by
  cases ps with
  | nil => exact absurd rfl hne
  | cons p ps =>
    obtain ⟨m, hm, e1, e2⟩ := maxD_parts ps p h
    refine ⟨m, hm, ?_, e2⟩
    have ok := parts_ok h hd
    rw [List.map_cons] at ok ⊢
    show (if maxOk (partD p :: ps.map partD) = true then some (DV.dat (PySem.W.maxD (partD p) (ps.map partD))) else none) = _
    rw [if_pos ok, e1]
end K08
end

section
set_option Elab.async false
set_option linter.all false
set_option maxRecDepth 100000
set_option maxHeartbeats 4000000
/-! M3: worths. -/
namespace K08
open PySem FD
def valsP (vs : List (List Int)) : PyData := .tuple (vs.map fun r => .tuple (r.map PyData.int))
def valsD (vs : List (List Int)) : DV := .dat (valsP vs)
def atV (vs : List (List Int)) (land cell : Nat) : Int := (vs.getD land []).getD cell 0
def wN (vs : List (List Int)) (cs : List Nat) : Int := ((List.range cs.length).map fun i => atV vs (cs.getD i 0) i).sum
/-- a table of worths for k lands, n cells -/
structure VOk9 (k n : Nat) (vs : List (List Int)) : Prop where
  len : vs.length = k
  row : ∀ r ∈ vs, r.length = n
  low : ∀ r ∈ vs, ∀ z ∈ r, -8 ≤ z ∧ z ≤ 8
/-- cells of k lands -/
structure COk9 (k n : Nat) (cs : List Nat) : Prop where
  len : cs.length = n
  low : ∀ c ∈ cs, c < k
theorem atI_of {α : Type} {l : List α} {j : Nat} (h : j < l.length) : L2.atI l ((j : Nat) : Int) = some l[j] := by
  unfold L2.atI L2.ixN
  rw [if_pos (by omega), if_pos (by omega)]
  simp [h]
theorem dIx_tup {ds : List PyData} {j : Nat} (h : j < ds.length) : dIx (.dat (.tuple ds)) (.dat (.int ((j : Nat) : Int))) = some (.dat ds[j]) := by
  show (L2.atI ds _).map DV.dat = _
  rw [atI_of h]; rfl
theorem dIx_lst {ds : List PyData} {j : Nat} (h : j < ds.length) : dIx (.dat (.list ds)) (.dat (.int ((j : Nat) : Int))) = some (.dat ds[j]) := by
  show (L2.atI ds _).map DV.dat = _
  rw [atI_of h]; rfl
theorem dIx_ch (a : Nat) (cs : List Nat) : dIx (chD a cs) (.dat (.int 1)) = some (.dat (tuN cs)) := rfl
theorem dIx_ch0 (a : Nat) (cs : List Nat) : dIx (chD a cs) (.dat (.int 0)) = some (.dat (iD a)) := rfl
theorem dIx_cs {cs : List Nat} {i : Nat} (h : i < cs.length) : dIx (.dat (tuN cs)) (.dat (.int ((i : Nat) : Int))) = some (.dat (iD (cs.getD i 0))) := by
  unfold tuN
  rw [dIx_tup (by rw [List.length_map]; exact h)]
  simp [h]
theorem dIx_val {vs : List (List Int)} {k n : Nat} (V : VOk9 k n vs) {c i : Nat} (hc : c < k) (hi : i < n) : (dIx (valsD vs) (.dat (iD c))).bind (fun x => dIx x (.dat (.int ((i : Nat) : Int)))) = some (.dat (.int (atV vs c i))) := by
  unfold valsD valsP iD
  have h1 : c < vs.length := by rw [V.len]; exact hc
  rw [dIx_tup (by rw [List.length_map]; exact h1)]
  have h2 : (vs[c]).length = n := V.row _ (List.getElem_mem h1)
  simp only [Option.bind_some, List.getElem_map]
  rw [dIx_tup (by rw [List.length_map, h2]; exact hi)]
  simp [atV, h1, h2, hi]
theorem ints_map (l : List Int) : intsOf (l.map PyData.int) = some l := by
  induction l with
  | nil => rfl
  | cons i l ih => rw [List.map_cons]; show (intsOf (l.map PyData.int)).map (i :: ·) = _; rw [ih]; rfl
theorem dLen_tu (cs : List Nat) : dLen (.dat (tuN cs)) = some (.dat (.int ((cs.length : Nat) : Int))) := by
  show some (DV.dat (.int (((cs.map iD).length : Nat) : Int))) = _
  rw [List.length_map]
theorem iRange_of {f : DE → Option DV} {env : DE} {n : Nat} (h : f env = some (.dat (.int ((n : Nat) : Int)))) (hn : n ≤ 100000) : iRange f env = some (rngD n) := by
  have hc : -(2 ^ 62) ≤ ((n : Nat) : Int) ∧ ((n : Nat) : Int) < 2 ^ 62 := ⟨by omega, by omega⟩
  unfold iRange
  rw [h, Option.bind_some]
  split
  · rename_i m e
    cases e
    rw [if_pos hc]
    rfl
  · rename_i hn
    exact absurd rfl (hn _)
theorem rngD_length (n : Nat) : (rngD n).length = n := by unfold rngD; rw [List.length_map, List.length_range]
theorem eLc_map {j : Nat} {fi : DE → Option (List PyData)} {te : DE → Option DV} {env : DE} {ds : List PyData} (f : PyData → PyData) (h : fi env = some ds) (hl : ds.length ≤ 100000) (ht : ∀ d ∈ ds, te ((wipeD env [j]).set j (some (false, .dat d))) = some (.dat (f d))) :
    eLc [j] fi (gtN j) tYesF te env = some (.dat (.list (ds.map f))) := by
  unfold eLc
  rw [h]
  show (if ds.length ≤ 100000 then (lcGo [j] (gtN j) tYesF te env ds).map (fun rs => DV.dat (.list rs)) else none) = _
  rw [if_pos hl, lc_map f ht]
  rfl
theorem eLc_filter {j : Nat} {fi : DE → Option (List PyData)} {tt : DE → Option Bool} {te : DE → Option DV} {env : DE} {ds : List PyData} (p : PyData → Bool) (f : PyData → PyData) (h : fi env = some ds) (hl : ds.length ≤ 100000) (hp : ∀ d ∈ ds, tt ((wipeD env [j]).set j (some (false, .dat d))) = some (p d)) (ht : ∀ d ∈ ds, p d = true → te ((wipeD env [j]).set j (some (false, .dat d))) = some (.dat (f d))) :
    eLc [j] fi (gtN j) tt te env = some (.dat (.list ((ds.filter p).map f))) := by
  unfold eLc
  rw [h]
  show (if ds.length ≤ 100000 then (lcGo [j] (gtN j) tt te env ds).map (fun rs => DV.dat (.list rs)) else none) = _
  rw [if_pos hl, lc_filter p f hp ht]
  rfl
theorem law_worth {a k n : Nat} {vs : List (List Int)} {cs : List Nat} (V : VOk9 k n vs) (C : COk9 k n cs) (hn : n ≤ 100) : F__law_worth [chD a cs, valsD vs] = some (.dat (.int (wN vs cs))) := by
  have hl := C.len
  unfold F__law_worth g__law_worth
  simp only [fnF, startD, sSeq, sNil, sRet, sIf, sSet, sExpr, sTup, sPar, sPar3, sFrz, sRetO, sFor, sNever, sClr, FD.e1, FD.e2, FD.e3, eVar, eRd, eC, eCall, aCons, aNil, eAnd, eOr, eNot, eIf, eTru, tNotF, tAndF, tOrF, eTupL, eLstL, lCons, lNil, lStar, eSl, pN, pS, iSeq, iKeys, iEnum, items, setAll, gtN, gtT, Option.bind_some, Option.map_some, Option.bind_none, Option.map_none, List.map_cons, List.map_nil, List.length_cons, List.length_nil, List.replicate, List.nil_append, List.cons_append, List.append_nil, List.getElem?_cons_zero, List.getElem?_cons_succ, List.set_cons_zero, List.set_cons_succ, Nat.reduceSub, Nat.reduceAdd, Nat.reduceLeDiff, wipeD, if_true, if_false, Bool.false_eq_true, dTru, dB, Bool.not_true, Bool.not_false]
  rw [eLc_map (ds := rngD cs.length) (fun d => match d with
    | .int i => .int (atV vs (cs.getD i.toNat 0) i.toNat)
    | _ => .none) (iRange_of (n := cs.length) ?_ (by omega)) (by rw [rngD_length]; omega)]
  · simp only [Option.bind_some]
    unfold rngD
    rw [List.map_map]
    have e2 : (List.range cs.length).map ((fun d => match d with | .int i => PyData.int (atV vs (cs.getD i.toNat 0) i.toNat) | _ => .none) ∘ fun i : Nat => PyData.int (i : Nat)) = ((List.range cs.length).map fun i => atV vs (cs.getD i 0) i).map PyData.int := by
      rw [List.map_map]
      rfl
    rw [e2]
    simp only [dSum, ints_map, Option.map_some]
    rfl
  · intro d hd
    unfold rngD at hd
    obtain ⟨i, hi, rfl⟩ := List.mem_map.mp hd
    have hi := List.mem_range.mp hi
    simp only [fnF, startD, sSeq, sNil, sRet, sIf, sSet, sExpr, sTup, sPar, sPar3, sFrz, sRetO, sFor, sNever, sClr, FD.e1, FD.e2, FD.e3, eVar, eRd, eC, eCall, aCons, aNil, eAnd, eOr, eNot, eIf, eTru, tNotF, tAndF, tOrF, eTupL, eLstL, lCons, lNil, lStar, eSl, pN, pS, iSeq, iKeys, iEnum, items, setAll, gtN, gtT, Option.bind_some, Option.map_some, Option.bind_none, Option.map_none, List.map_cons, List.map_nil, List.length_cons, List.length_nil, List.replicate, List.nil_append, List.cons_append, List.append_nil, List.getElem?_cons_zero, List.getElem?_cons_succ, List.set_cons_zero, List.set_cons_succ, Nat.reduceSub, Nat.reduceAdd, Nat.reduceLeDiff, wipeD, if_true, if_false, Bool.false_eq_true, dTru, dB, Bool.not_true, Bool.not_false]
    rw [dIx_ch]
    simp only [Option.bind_some]
    rw [dIx_cs hi]
    simp only [Option.bind_some]
    have hc : cs.getD i 0 < k := by
      rw [List.getD_eq_getElem?_getD, List.getElem?_eq_getElem hi]
      exact C.low _ (List.getElem_mem hi)
    exact dIx_val V hc (by omega)
  · simp only [fnF, startD, sSeq, sNil, sRet, sIf, sSet, sExpr, sTup, sPar, sPar3, sFrz, sRetO, sFor, sNever, sClr, FD.e1, FD.e2, FD.e3, eVar, eRd, eC, eCall, aCons, aNil, eAnd, eOr, eNot, eIf, eTru, tNotF, tAndF, tOrF, eTupL, eLstL, lCons, lNil, lStar, eSl, pN, pS, iSeq, iKeys, iEnum, items, setAll, gtN, gtT, Option.bind_some, Option.map_some, Option.bind_none, Option.map_none, List.map_cons, List.map_nil, List.length_cons, List.length_nil, List.replicate, List.nil_append, List.cons_append, List.append_nil, List.getElem?_cons_zero, List.getElem?_cons_succ, List.set_cons_zero, List.set_cons_succ, Nat.reduceSub, Nat.reduceAdd, Nat.reduceLeDiff, wipeD, if_true, if_false, Bool.false_eq_true, dTru, dB, Bool.not_true, Bool.not_false]
    rw [dIx_ch]
    simp only [Option.bind_some]
    exact dLen_tu cs
end K08
end

section
set_option Elab.async false
set_option linter.all false
set_option maxRecDepth 100000
set_option maxHeartbeats 4000000
/-! M4: worth_of, are_values, need_valued. -/
namespace K08
open PySem FD
theorem intGo_map {vs : List Nat} {gt : PyData → DE → Option DE} {te : DE → Option DV} {env : DE} (f : PyData → Int) : ∀ {ds : List PyData}, (∀ d ∈ ds, ∃ e2, gt d (wipeD env vs) = some e2 ∧ te e2 = some (.dat (.int (f d)))) → FDG.intGo vs gt te env ds = some (ds.map f)
  | [], _ => rfl
  | d :: ds, h => by
    obtain ⟨e2, h1, h2⟩ := h d (List.mem_cons_self ..)
    unfold FDG.intGo
    rw [h1, Option.bind_some, h2, Option.bind_some]
    show (FDG.intGo vs gt te env ds).map (f d :: ·) = _
    rw [intGo_map f fun e he => h e (List.mem_cons_of_mem _ he)]
    rfl
theorem anyGo_all {vs : List Nat} {gt : PyData → DE → Option DE} {te : DE → Option DV} {env : DE} : ∀ {ds : List PyData}, (∀ d ∈ ds, ∃ e2, gt d (wipeD env vs) = some e2 ∧ te e2 = some (dB true)) → FDG.anyGo false vs gt te env ds = some true
  | [], _ => rfl
  | d :: ds, h => by
    obtain ⟨e2, h1, h2⟩ := h d (List.mem_cons_self ..)
    unfold FDG.anyGo
    rw [h1, Option.bind_some, h2, Option.bind_some]
    show (if true = false then some false else FDG.anyGo false vs gt te env ds) = _
    rw [if_neg (by decide)]
    exact anyGo_all fun e he => h e (List.mem_cons_of_mem _ he)
theorem forGo_const {gt : PyData → DE → Option DE} {body : DE → Option Out} {env : DE} : ∀ {ds : List PyData}, (∀ d ∈ ds, ∃ e1, gt d env = some e1 ∧ body e1 = some (.nx env)) → forGo gt body ds env = some (.nx env)
  | [], _ => rfl
  | d :: ds, h => by
    obtain ⟨e1, h1, h2⟩ := h d (List.mem_cons_self ..)
    unfold forGo
    rw [h1, Option.bind_some, h2, Option.bind_some]
    exact forGo_const fun e he => h e (List.mem_cons_of_mem _ he)
theorem is_in_int (z lo hi : Int) : F_is_in [.dat (.int z), .dat (.int lo), .dat (.int hi)] = some (dB (decide (lo ≤ z) && decide (z ≤ hi))) := by
  unfold F_is_in g_is_in
  simp only [fnF, startD, sSeq, sNil, sRet, sIf, sSet, sExpr, sTup, sPar, sPar3, sFrz, sRetO, sFor, sNever, sClr, FD.e1, FD.e2, FD.e3, eVar, eRd, eC, eCall, aCons, aNil, eAnd, eOr, eNot, eIf, eTru, tNotF, tAndF, tOrF, eTupL, eLstL, lCons, lNil, lStar, eSl, pN, pS, iSeq, iKeys, iEnum, items, setAll, gtN, gtT, Option.bind_some, Option.map_some, Option.bind_none, Option.map_none, List.map_cons, List.map_nil, List.length_cons, List.length_nil, List.replicate, List.nil_append, List.cons_append, List.append_nil, List.getElem?_cons_zero, List.getElem?_cons_succ, List.set_cons_zero, List.set_cons_succ, Nat.reduceSub, Nat.reduceAdd, Nat.reduceLeDiff, wipeD, if_true, if_false, Bool.false_eq_true, dTru, dB, Bool.not_true, Bool.not_false, dIsi, eChain, dLe, isK, kindOf]
  cases h : decide (lo ≤ z) <;> rfl
theorem atV_low {vs : List (List Int)} {k n : Nat} (V : VOk9 k n vs) {c i : Nat} (hc : c < k) (hi : i < n) : -8 ≤ atV vs c i ∧ atV vs c i ≤ 8 := by
  have h1 : c < vs.length := by rw [V.len]; exact hc
  have h2 : (vs[c]).length = n := V.row _ (List.getElem_mem h1)
  have e : atV vs c i = (vs[c])[i]'(by rw [h2]; exact hi) := by simp [atV, h1, h2, hi]
  rw [e]
  exact V.low _ (List.getElem_mem h1) _ (List.getElem_mem _)
def fEn (vs : List (List Int)) : PyData → Int
  | .tuple [.int i, .int c] => atV vs c.toNat i.toNat
  | _ => 0
theorem en_map {vs : List (List Int)} (cs : List Nat) : (enD 0 (cs.map iD)).map (fEn vs) = (List.range cs.length).map fun i => atV vs (cs.getD i 0) i := by
  refine List.ext_getElem (by rw [List.length_map, enD_length, List.length_map, List.length_map, List.length_range]) fun i h1 h2 => ?_
  rw [List.length_map, List.length_range] at h2
  rw [List.getElem_map, List.getElem_map, List.getElem_range]
  have hi : i < (enD 0 (cs.map iD)).length := by rw [enD_length, List.length_map]; exact h2
  obtain ⟨x, e1, e2⟩ := enD_get (List.getElem?_eq_getElem hi)
  rw [e2]
  rw [List.getElem?_map, List.getElem?_eq_getElem h2] at e1
  have e1 := (Option.some.inj e1).symm
  rw [e1]
  show atV vs ((cs[i] : Nat) : Int).toNat (((0 + i : Nat) : Int)).toNat = _
  rw [Int.toNat_natCast, Int.toNat_natCast, Nat.zero_add]
  simp [h2]
theorem sumOk_of {l : List Int} (h1 : l.length ≤ 1000) (h2 : ∀ z ∈ l, -8 ≤ z ∧ z ≤ 8) : FDG.sumOk l = true := by
  unfold FDG.sumOk
  rw [Bool.and_eq_true, decide_eq_true_eq, List.all_eq_true]
  refine ⟨h1, fun z hz => ?_⟩
  obtain ⟨a, b⟩ := h2 z hz
  rw [Bool.and_eq_true, decide_eq_true_eq, decide_eq_true_eq]
  exact ⟨by omega, by omega⟩
theorem worth_of {a k n : Nat} {vs : List (List Int)} {cs : List Nat} (V : VOk9 k n vs) (C : COk9 k n cs) (hn : n ≤ 100) : F_worth_of [chD a cs, valsD vs] = some (.dat (.int (wN vs cs))) := by
  have hl := C.len
  unfold F_worth_of g_worth_of
  simp only [fnF, startD, sSeq, sNil, sRet, sIf, sSet, sExpr, sTup, sPar, sPar3, sFrz, sRetO, sFor, sNever, sClr, FD.e1, FD.e2, FD.e3, eVar, eRd, eC, eCall, aCons, aNil, eAnd, eOr, eNot, eIf, eTru, tNotF, tAndF, tOrF, eTupL, eLstL, lCons, lNil, lStar, eSl, pN, pS, iSeq, iKeys, iEnum, items, setAll, gtN, gtT, Option.bind_some, Option.map_some, Option.bind_none, Option.map_none, List.map_cons, List.map_nil, List.length_cons, List.length_nil, List.replicate, List.nil_append, List.cons_append, List.append_nil, List.getElem?_cons_zero, List.getElem?_cons_succ, List.set_cons_zero, List.set_cons_succ, Nat.reduceSub, Nat.reduceAdd, Nat.reduceLeDiff, wipeD, if_true, if_false, Bool.false_eq_true, dTru, dB, Bool.not_true, Bool.not_false, FDG.eSumG]
  rw [dIx_ch]
  simp only [Option.bind_some, tuN]
  rw [intGo_map (fEn vs)]
  · simp only [Option.bind_some]
    rw [en_map, if_pos]
    · rfl
    · refine sumOk_of (by rw [List.length_map, List.length_range]; omega) fun z hz => ?_
      obtain ⟨i, hi, rfl⟩ := List.mem_map.mp hz
      have hi := List.mem_range.mp hi
      refine atV_low V ?_ (by omega)
      rw [List.getD_eq_getElem?_getD, List.getElem?_eq_getElem hi]
      exact C.low _ (List.getElem_mem hi)
  · intro d hd
    obtain ⟨i, hi, rfl⟩ := List.getElem_of_mem hd
    obtain ⟨x, e1, e2⟩ := enD_get (List.getElem?_eq_getElem hi)
    rw [enD_length, List.length_map] at hi
    rw [List.getElem?_map, List.getElem?_eq_getElem hi] at e1
    have e1 := (Option.some.inj e1).symm
    rw [e2, e1]
    refine ⟨_, by simp only [fnF, startD, sSeq, sNil, sRet, sIf, sSet, sExpr, sTup, sPar, sPar3, sFrz, sRetO, sFor, sNever, sClr, FD.e1, FD.e2, FD.e3, eVar, eRd, eC, eCall, aCons, aNil, eAnd, eOr, eNot, eIf, eTru, tNotF, tAndF, tOrF, eTupL, eLstL, lCons, lNil, lStar, eSl, pN, pS, iSeq, iKeys, iEnum, items, setAll, gtN, gtT, Option.bind_some, Option.map_some, Option.bind_none, Option.map_none, List.map_cons, List.map_nil, List.length_cons, List.length_nil, List.replicate, List.nil_append, List.cons_append, List.append_nil, List.getElem?_cons_zero, List.getElem?_cons_succ, List.set_cons_zero, List.set_cons_succ, Nat.reduceSub, Nat.reduceAdd, Nat.reduceLeDiff, wipeD, if_true, if_false, Bool.false_eq_true, dTru, dB, Bool.not_true, Bool.not_false, iD]; rfl, ?_⟩
    simp only [fnF, startD, sSeq, sNil, sRet, sIf, sSet, sExpr, sTup, sPar, sPar3, sFrz, sRetO, sFor, sNever, sClr, FD.e1, FD.e2, FD.e3, eVar, eRd, eC, eCall, aCons, aNil, eAnd, eOr, eNot, eIf, eTru, tNotF, tAndF, tOrF, eTupL, eLstL, lCons, lNil, lStar, eSl, pN, pS, iSeq, iKeys, iEnum, items, setAll, gtN, gtT, Option.bind_some, Option.map_some, Option.bind_none, Option.map_none, List.map_cons, List.map_nil, List.length_cons, List.length_nil, List.replicate, List.nil_append, List.cons_append, List.append_nil, List.getElem?_cons_zero, List.getElem?_cons_succ, List.set_cons_zero, List.set_cons_succ, Nat.reduceSub, Nat.reduceAdd, Nat.reduceLeDiff, wipeD, if_true, if_false, Bool.false_eq_true, dTru, dB, Bool.not_true, Bool.not_false, iD]
    have h := dIx_val V (c := cs[i]) (i := 0 + i) (C.low _ (List.getElem_mem hi)) (by omega)
    unfold iD at h
    rw [h]
    show _ = some (DV.dat (.int (atV vs ((cs[i] : Nat) : Int).toNat (((0 + i : Nat) : Int)).toNat)))
    rw [Int.toNat_natCast, Int.toNat_natCast]
theorem dLen_vals (vs : List (List Int)) : dLen (valsD vs) = some (.dat (.int ((vs.length : Nat) : Int))) := by
  show some (DV.dat (.int (((vs.map fun r => PyData.tuple (r.map PyData.int)).length : Nat) : Int))) = _
  rw [List.length_map]
theorem are_values_ok {k n : Nat} {vs : List (List Int)} (V : VOk9 k n vs) : F_are_values [.dat (iD k), .dat (iD n), valsD vs] = some (dB true) := by
  unfold F_are_values g_are_values
  simp only [fnF, startD, sSeq, sNil, sRet, sIf, sSet, sExpr, sTup, sPar, sPar3, sFrz, sRetO, sFor, sNever, sClr, FD.e1, FD.e2, FD.e3, eVar, eRd, eC, eCall, aCons, aNil, eAnd, eOr, eNot, eIf, eTru, tNotF, tAndF, tOrF, eTupL, eLstL, lCons, lNil, lStar, eSl, pN, pS, iSeq, iKeys, iEnum, items, setAll, gtN, gtT, Option.bind_some, Option.map_some, Option.bind_none, Option.map_none, List.map_cons, List.map_nil, List.length_cons, List.length_nil, List.replicate, List.nil_append, List.cons_append, List.append_nil, List.getElem?_cons_zero, List.getElem?_cons_succ, List.set_cons_zero, List.set_cons_succ, Nat.reduceSub, Nat.reduceAdd, Nat.reduceLeDiff, wipeD, if_true, if_false, Bool.false_eq_true, dTru, dB, Bool.not_true, Bool.not_false, dLen_vals]
  have e1 : dIsi "tuple" (valsD vs) = some (dB true) := rfl
  rw [e1]
  have e2 : dNe (.dat (.int ((vs.length : Nat) : Int))) (.dat (iD k)) = some (dB false) := by
    show some (dB (!decide ((vs.length : Int) = (k : Int)))) = _
    rw [V.len]; simp
  simp only [fnF, startD, sSeq, sNil, sRet, sIf, sSet, sExpr, sTup, sPar, sPar3, sFrz, sRetO, sFor, sNever, sClr, FD.e1, FD.e2, FD.e3, eVar, eRd, eC, eCall, aCons, aNil, eAnd, eOr, eNot, eIf, eTru, tNotF, tAndF, tOrF, eTupL, eLstL, lCons, lNil, lStar, eSl, pN, pS, iSeq, iKeys, iEnum, items, setAll, gtN, gtT, Option.bind_some, Option.map_some, Option.bind_none, Option.map_none, List.map_cons, List.map_nil, List.length_cons, List.length_nil, List.replicate, List.nil_append, List.cons_append, List.append_nil, List.getElem?_cons_zero, List.getElem?_cons_succ, List.set_cons_zero, List.set_cons_succ, Nat.reduceSub, Nat.reduceAdd, Nat.reduceLeDiff, wipeD, if_true, if_false, Bool.false_eq_true, dTru, dB, Bool.not_true, Bool.not_false]
  rw [e2]
  simp only [fnF, startD, sSeq, sNil, sRet, sIf, sSet, sExpr, sTup, sPar, sPar3, sFrz, sRetO, sFor, sNever, sClr, FD.e1, FD.e2, FD.e3, eVar, eRd, eC, eCall, aCons, aNil, eAnd, eOr, eNot, eIf, eTru, tNotF, tAndF, tOrF, eTupL, eLstL, lCons, lNil, lStar, eSl, pN, pS, iSeq, iKeys, iEnum, items, setAll, gtN, gtT, Option.bind_some, Option.map_some, Option.bind_none, Option.map_none, List.map_cons, List.map_nil, List.length_cons, List.length_nil, List.replicate, List.nil_append, List.cons_append, List.append_nil, List.getElem?_cons_zero, List.getElem?_cons_succ, List.set_cons_zero, List.set_cons_succ, Nat.reduceSub, Nat.reduceAdd, Nat.reduceLeDiff, wipeD, if_true, if_false, Bool.false_eq_true, dTru, dB, Bool.not_true, Bool.not_false, valsD, valsP]
  rw [forGo_const]
  · simp only [fnF, startD, sSeq, sNil, sRet, sIf, sSet, sExpr, sTup, sPar, sPar3, sFrz, sRetO, sFor, sNever, sClr, FD.e1, FD.e2, FD.e3, eVar, eRd, eC, eCall, aCons, aNil, eAnd, eOr, eNot, eIf, eTru, tNotF, tAndF, tOrF, eTupL, eLstL, lCons, lNil, lStar, eSl, pN, pS, iSeq, iKeys, iEnum, items, setAll, gtN, gtT, Option.bind_some, Option.map_some, Option.bind_none, Option.map_none, List.map_cons, List.map_nil, List.length_cons, List.length_nil, List.replicate, List.nil_append, List.cons_append, List.append_nil, List.getElem?_cons_zero, List.getElem?_cons_succ, List.set_cons_zero, List.set_cons_succ, Nat.reduceSub, Nat.reduceAdd, Nat.reduceLeDiff, wipeD, if_true, if_false, Bool.false_eq_true, dTru, dB, Bool.not_true, Bool.not_false]
  · intro d hd
    obtain ⟨r, hr, rfl⟩ := List.mem_map.mp hd
    refine ⟨_, rfl, ?_⟩
    have hlen := V.row r hr
    have e3 : dNe (.dat (.int (((r.map PyData.int).length : Nat) : Int))) (.dat (iD n)) = some (dB false) := by
      rw [List.length_map]
      show some (dB (!decide ((r.length : Int) = (n : Int)))) = _
      rw [hlen]; simp
    have e4 : dIsi "tuple" (.dat (.tuple (r.map PyData.int))) = some (dB true) := rfl
    simp only [fnF, startD, sSeq, sNil, sRet, sIf, sSet, sExpr, sTup, sPar, sPar3, sFrz, sRetO, sFor, sNever, sClr, FD.e1, FD.e2, FD.e3, eVar, eRd, eC, eCall, aCons, aNil, eAnd, eOr, eNot, eIf, eTru, tNotF, tAndF, tOrF, eTupL, eLstL, lCons, lNil, lStar, eSl, pN, pS, iSeq, iKeys, iEnum, items, setAll, gtN, gtT, Option.bind_some, Option.map_some, Option.bind_none, Option.map_none, List.map_cons, List.map_nil, List.length_cons, List.length_nil, List.replicate, List.nil_append, List.cons_append, List.append_nil, List.getElem?_cons_zero, List.getElem?_cons_succ, List.set_cons_zero, List.set_cons_succ, Nat.reduceSub, Nat.reduceAdd, Nat.reduceLeDiff, wipeD, if_true, if_false, Bool.false_eq_true, dTru, dB, Bool.not_true, Bool.not_false, e4, dLen, e3, dTru, dB, Bool.not_true, Bool.not_false, FDG.eAny]
    rw [anyGo_all]
    · simp only [fnF, startD, sSeq, sNil, sRet, sIf, sSet, sExpr, sTup, sPar, sPar3, sFrz, sRetO, sFor, sNever, sClr, FD.e1, FD.e2, FD.e3, eVar, eRd, eC, eCall, aCons, aNil, eAnd, eOr, eNot, eIf, eTru, tNotF, tAndF, tOrF, eTupL, eLstL, lCons, lNil, lStar, eSl, pN, pS, iSeq, iKeys, iEnum, items, setAll, gtN, gtT, Option.bind_some, Option.map_some, Option.bind_none, Option.map_none, List.map_cons, List.map_nil, List.length_cons, List.length_nil, List.replicate, List.nil_append, List.cons_append, List.append_nil, List.getElem?_cons_zero, List.getElem?_cons_succ, List.set_cons_zero, List.set_cons_succ, Nat.reduceSub, Nat.reduceAdd, Nat.reduceLeDiff, wipeD, if_true, if_false, Bool.false_eq_true, dTru, dB, Bool.not_true, Bool.not_false, dTru, dB, Bool.not_true]
    · intro z hz
      obtain ⟨i, hi, rfl⟩ := List.mem_map.mp hz
      refine ⟨_, rfl, ?_⟩
      obtain ⟨l1, l2⟩ := V.low r hr i hi
      simp only [fnF, startD, sSeq, sNil, sRet, sIf, sSet, sExpr, sTup, sPar, sPar3, sFrz, sRetO, sFor, sNever, sClr, FD.e1, FD.e2, FD.e3, eVar, eRd, eC, eCall, aCons, aNil, eAnd, eOr, eNot, eIf, eTru, tNotF, tAndF, tOrF, eTupL, eLstL, lCons, lNil, lStar, eSl, pN, pS, iSeq, iKeys, iEnum, items, setAll, gtN, gtT, Option.bind_some, Option.map_some, Option.bind_none, Option.map_none, List.map_cons, List.map_nil, List.length_cons, List.length_nil, List.replicate, List.nil_append, List.cons_append, List.append_nil, List.getElem?_cons_zero, List.getElem?_cons_succ, List.set_cons_zero, List.set_cons_succ, Nat.reduceSub, Nat.reduceAdd, Nat.reduceLeDiff, wipeD, if_true, if_false, Bool.false_eq_true, dTru, dB, Bool.not_true, Bool.not_false, dSub, dI]
      have := is_in_int i (0 - 100) 100
      rw [show (0 : Int) - 100 = -100 from rfl] at this ⊢
      rw [this, decide_eq_true (show (-100 : Int) ≤ i by omega), decide_eq_true (show i ≤ (100 : Int) by omega)]
      rfl
end K08
end

section
set_option Elab.async false
set_option linter.all false
set_option maxRecDepth 100000
set_option maxHeartbeats 4000000
/-! M5: the facts of a kind of island; keys of charts; worth, need_valued. -/
namespace K08
open PySem FD
structure Dom (a l k : Nat) : Prop where
  la : a = 3 ∨ a = 4
  ll : l = 1 ∨ l = 2
  lk : 2 ≤ k ∧ k ≤ l + 1
  maps : F__law_maps [.dat (iD a), .dat (iD l), .dat (iD k)] = some (.dat (.list ((mapsN a l k).map (chP a))))
  isMap : ∀ cs ∈ mapsN a l k, F_is_map [chD a cs] = some (dB true)
  lands : ∀ cs ∈ mapsN a l k, F_lands_of [chD a cs] = some (.dat (iD k))
  len : ∀ cs ∈ mapsN a l k, F_length_of [chD a cs] = some (.dat (iD l))
  tak : ∀ cs ∈ mapsN a l k, F_all_takings [chD a cs] = some (.dat (.list ((takN a l k cs).map pairD)))
  tak2 : ∀ cs ∈ mapsN a l k, F__law_takings [chD a cs] = some (.dat (.list ((takN a l k cs).map pairD)))
  tkn : ∀ cs ∈ mapsN a l k, ∀ t ∈ takN a l k cs, F_taken [chD a cs, .dat (pairD t)] = some (chD a (cs.set t.2 t.1))
  tkn2 : ∀ cs ∈ mapsN a l k, ∀ t ∈ takN a l k cs, F__law_behind [chD a cs, .dat (pairD t)] = some (chD a (cs.set t.2 t.1))
  closed : ∀ cs ∈ mapsN a l k, ∀ t ∈ takN a l k cs, cs.set t.2 t.1 ∈ mapsN a l k
  cok : ∀ cs ∈ mapsN a l k, COk9 k (a * l + 1) cs
  few : (mapsN a l k).length ≤ 1000
  no0 : F_is_map [.dat (chP a [])] = some (dB false)
  no1 : F_is_map [.dat (chP a (List.replicate (a * l + 1) 0))] = some (dB false)
/-! keys -/
def numsK (l : List Nat) : List NestedKey := l.map fun n : Nat => NestedKey.num (n : Int)
def tuK (l : List Nat) : NestedKey := .tup (numsK l)
def chK (a : Nat) (l : List Nat) : NestedKey := .tup [.num (a : Int), tuK l]
theorem keysOf_nums : ∀ l : List Nat, keysOf (l.map iD) = some (numsK l)
  | [] => by rw [List.map_nil, keysOf]; rfl
  | n :: l => by
    rw [List.map_cons, keysOf, keysOf_nums l]
    show ((keyOf (.int n)).bind fun k => (some (numsK l)).map (k :: ·)) = _
    rw [keyOf]
    rfl
theorem keyOf_tu (l : List Nat) : keyOf (tuN l) = some (tuK l) := by
  unfold tuN
  rw [keyOf, keysOf_nums]
  rfl
theorem keyOf_ch (a : Nat) (l : List Nat) : keyOf (chP a l) = some (chK a l) := by
  unfold chP
  rw [keyOf, keysOf, keysOf, keysOf, keyOf_tu]
  show (((keyOf (.int a)).bind fun k => _).map _) = _
  rw [keyOf]
  rfl
theorem kdep_nums : ∀ l : List Nat, NestedKey.depthAll (numsK l) = 0
  | [] => rfl
  | n :: l => by
    show NestedKey.depthAll (NestedKey.num (n : Int) :: numsK l) = 0
    rw [NestedKey.depthAll, kdep_nums l]
    rfl
theorem isKey_tu (l : List Nat) : isKey (tuK l) = true := by
  have h : (tuK l).depth = 1 := by unfold tuK; rw [NestedKey.depth, kdep_nums]
  unfold isKey
  rw [h]; rfl
theorem isKey_ch (a : Nat) (l : List Nat) : isKey (chK a l) = true := by
  have h : (tuK l).depth = 1 := by unfold tuK; rw [NestedKey.depth, kdep_nums]
  have h : (chK a l).depth = 2 := by
    unfold chK
    rw [NestedKey.depth, NestedKey.depthAll, NestedKey.depthAll, NestedKey.depthAll, h]; rfl
  unfold isKey
  rw [h]; rfl
theorem keyT_tu (l : List Nat) : keyT (.dat (tuN l)) = some (tuK l) := by
  unfold keyT
  simp only [keyOf_tu, Option.bind_some, isKey_tu, if_true]
theorem keyT_ch (a : Nat) (l : List Nat) : keyT (chD a l) = some (chK a l) := by
  unfold keyT chD
  simp only [keyOf_ch, Option.bind_some, isKey_ch, if_true]
theorem data_ch (a : Nat) (l : List Nat) : (chK a l).data = chP a l := keyOf_data _ _ (keyOf_ch a l)
theorem data_tu (l : List Nat) : (tuK l).data = tuN l := keyOf_data _ _ (keyOf_tu l)
theorem iD_inj {a b : Nat} (h : iD a = iD b) : a = b := by
  unfold iD at h
  injection h with h
  exact Int.ofNat.inj h
theorem tuN_inj {l m : List Nat} (h : tuN l = tuN m) : l = m := by
  unfold tuN at h
  injection h with h
  exact List.map_inj_right (fun _ _ => iD_inj) |>.mp h
theorem chP_inj {a b : Nat} {l m : List Nat} (h : chP a l = chP b m) : a = b ∧ l = m := by
  unfold chP at h
  injection h with h
  injection h with h1 h
  injection h with h2 h
  exact ⟨iD_inj h1, tuN_inj h2⟩
theorem chK_inj {a : Nat} {l m : List Nat} (h : chK a l = chK a m) : l = m := by
  have := congrArg NestedKey.data h
  rw [data_ch, data_ch] at this
  exact (chP_inj this).2
/-! dicts -/
theorem dFind_iff {kvs : List (NestedKey × PyData)} {k : NestedKey} : (dFind kvs k).isSome = true ↔ k ∈ kvs.map (·.1) := by
  unfold dFind
  rw [Option.isSome_map, List.find?_isSome, List.mem_map]
  constructor
  · rintro ⟨p, hp, h⟩; exact ⟨p, hp, of_decide_eq_true h⟩
  · rintro ⟨p, hp, h⟩; exact ⟨p, hp, decide_eq_true h⟩
theorem dFind_mem {kvs : List (NestedKey × PyData)} {k : NestedKey} {d : PyData} (h : dFind kvs k = some d) : (k, d) ∈ kvs := by
  unfold dFind at h
  obtain ⟨p, h1, rfl⟩ := Option.map_eq_some_iff.mp h
  have h2 := List.mem_of_find?_eq_some h1
  have h3 : p.1 = k := by have := List.find?_some h1; exact of_decide_eq_true this
  rw [← h3]; exact h2
theorem dPut_new {kvs : List (NestedKey × PyData)} {k : NestedKey} {d : PyData} (h : k ∉ kvs.map (·.1)) : dPut kvs k d = kvs ++ [(k, d)] := by
  unfold dPut
  rw [if_neg fun z => h (dFind_iff.mp z)]
/-! the worth of a map -/
theorem dLen_ch (a : Nat) (cs : List Nat) : (dIx (chD a cs) (.dat (.int 1))).bind dLen = some (.dat (iD cs.length)) := by
  rw [dIx_ch]; exact dLen_tu cs
variable {a l k : Nat} {vs : List (List Int)} {cs : List Nat}
theorem need_map (D : Dom a l k) (h : cs ∈ mapsN a l k) : F_need_map [chD a cs] = some (.dat .none) := by
  unfold F_need_map g_need_map
  simp only [fnF, startD, sSeq, sNil, sRet, sIf, sSet, sExpr, sTup, sPar, sPar3, sFrz, sRetO, sFor, sNever, sClr, FD.e1, FD.e2, FD.e3, eVar, eRd, eC, eCall, aCons, aNil, eAnd, eOr, eNot, eIf, eTru, tNotF, tAndF, tOrF, eTupL, eLstL, lCons, lNil, lStar, eSl, pN, pS, iSeq, iKeys, iEnum, items, setAll, gtN, gtT, Option.bind_some, Option.map_some, Option.bind_none, Option.map_none, List.map_cons, List.map_nil, List.length_cons, List.length_nil, List.replicate, List.nil_append, List.cons_append, List.append_nil, List.getElem?_cons_zero, List.getElem?_cons_succ, List.set_cons_zero, List.set_cons_succ, Nat.reduceSub, Nat.reduceAdd, Nat.reduceLeDiff, wipeD, if_true, if_false, Bool.false_eq_true, dTru, dB, Bool.not_true, Bool.not_false, D.isMap cs h]
theorem need_valued (D : Dom a l k) (h : cs ∈ mapsN a l k) (V : VOk9 k (a * l + 1) vs) : F_need_valued [chD a cs, valsD vs] = some (.dat .none) := by
  have e := are_values_ok V
  have hl := (D.cok cs h).len
  unfold F_need_valued g_need_valued
  simp only [fnF, startD, sSeq, sNil, sRet, sIf, sSet, sExpr, sTup, sPar, sPar3, sFrz, sRetO, sFor, sNever, sClr, FD.e1, FD.e2, FD.e3, eVar, eRd, eC, eCall, aCons, aNil, eAnd, eOr, eNot, eIf, eTru, tNotF, tAndF, tOrF, eTupL, eLstL, lCons, lNil, lStar, eSl, pN, pS, iSeq, iKeys, iEnum, items, setAll, gtN, gtT, Option.bind_some, Option.map_some, Option.bind_none, Option.map_none, List.map_cons, List.map_nil, List.length_cons, List.length_nil, List.replicate, List.nil_append, List.cons_append, List.append_nil, List.getElem?_cons_zero, List.getElem?_cons_succ, List.set_cons_zero, List.set_cons_succ, Nat.reduceSub, Nat.reduceAdd, Nat.reduceLeDiff, wipeD, if_true, if_false, Bool.false_eq_true, dTru, dB, Bool.not_true, Bool.not_false, need_map D h, D.lands cs h, dIx_ch]
  rw [dLen_tu]
  simp only [fnF, startD, sSeq, sNil, sRet, sIf, sSet, sExpr, sTup, sPar, sPar3, sFrz, sRetO, sFor, sNever, sClr, FD.e1, FD.e2, FD.e3, eVar, eRd, eC, eCall, aCons, aNil, eAnd, eOr, eNot, eIf, eTru, tNotF, tAndF, tOrF, eTupL, eLstL, lCons, lNil, lStar, eSl, pN, pS, iSeq, iKeys, iEnum, items, setAll, gtN, gtT, Option.bind_some, Option.map_some, Option.bind_none, Option.map_none, List.map_cons, List.map_nil, List.length_cons, List.length_nil, List.replicate, List.nil_append, List.cons_append, List.append_nil, List.getElem?_cons_zero, List.getElem?_cons_succ, List.set_cons_zero, List.set_cons_succ, Nat.reduceSub, Nat.reduceAdd, Nat.reduceLeDiff, wipeD, if_true, if_false, Bool.false_eq_true, dTru, dB, Bool.not_true, Bool.not_false]
  rw [hl]
  unfold iD at e
  unfold iD
  rw [e]
  simp only [fnF, startD, sSeq, sNil, sRet, sIf, sSet, sExpr, sTup, sPar, sPar3, sFrz, sRetO, sFor, sNever, sClr, FD.e1, FD.e2, FD.e3, eVar, eRd, eC, eCall, aCons, aNil, eAnd, eOr, eNot, eIf, eTru, tNotF, tAndF, tOrF, eTupL, eLstL, lCons, lNil, lStar, eSl, pN, pS, iSeq, iKeys, iEnum, items, setAll, gtN, gtT, Option.bind_some, Option.map_some, Option.bind_none, Option.map_none, List.map_cons, List.map_nil, List.length_cons, List.length_nil, List.replicate, List.nil_append, List.cons_append, List.append_nil, List.getElem?_cons_zero, List.getElem?_cons_succ, List.set_cons_zero, List.set_cons_succ, Nat.reduceSub, Nat.reduceAdd, Nat.reduceLeDiff, wipeD, if_true, if_false, Bool.false_eq_true, dTru, dB, Bool.not_true, Bool.not_false]
theorem nSmall (D : Dom a l k) : a * l + 1 ≤ 9 := by
  rcases D.la with rfl | rfl <;> rcases D.ll with rfl | rfl <;> decide
theorem F_worth_ok (D : Dom a l k) (h : cs ∈ mapsN a l k) (V : VOk9 k (a * l + 1) vs) : F_worth [chD a cs, valsD vs] = some (.dat (.int (wN vs cs))) := by
  have e := worth_of (a := a) V (D.cok cs h) (by have := nSmall D; omega)
  unfold F_worth g_worth
  simp only [fnF, startD, sSeq, sNil, sRet, sIf, sSet, sExpr, sTup, sPar, sPar3, sFrz, sRetO, sFor, sNever, sClr, FD.e1, FD.e2, FD.e3, eVar, eRd, eC, eCall, aCons, aNil, eAnd, eOr, eNot, eIf, eTru, tNotF, tAndF, tOrF, eTupL, eLstL, lCons, lNil, lStar, eSl, pN, pS, iSeq, iKeys, iEnum, items, setAll, gtN, gtT, Option.bind_some, Option.map_some, Option.bind_none, Option.map_none, List.map_cons, List.map_nil, List.length_cons, List.length_nil, List.replicate, List.nil_append, List.cons_append, List.append_nil, List.getElem?_cons_zero, List.getElem?_cons_succ, List.set_cons_zero, List.set_cons_succ, Nat.reduceSub, Nat.reduceAdd, Nat.reduceLeDiff, wipeD, if_true, if_false, Bool.false_eq_true, dTru, dB, Bool.not_true, Bool.not_false, need_valued D h V, e]
theorem wOf (D : Dom a l k) (h : cs ∈ mapsN a l k) (V : VOk9 k (a * l + 1) vs) : F_worth_of [chD a cs, valsD vs] = some (.dat (.int (wN vs cs))) := worth_of V (D.cok cs h) (by have := nSmall D; omega)
theorem lOf (D : Dom a l k) (h : cs ∈ mapsN a l k) (V : VOk9 k (a * l + 1) vs) : F__law_worth [chD a cs, valsD vs] = some (.dat (.int (wN vs cs))) := law_worth V (D.cok cs h) (by have := nSmall D; omega)
end K08
end

section
set_option Elab.async false
set_option linter.all false
set_option maxRecDepth 100000
set_option maxHeartbeats 4000000
/-! M6: all of a class, walked by both. -/
namespace K08
open PySem FD
theorem len_le_of_subset {α : Type} [DecidableEq α] : ∀ {l m : List α}, l.Nodup → (∀ x ∈ l, x ∈ m) → l.length ≤ m.length
  | [], _, _, _ => Nat.zero_le _
  | x :: l, m, hn, hs => by
    have hx : x ∈ m := hs x (List.mem_cons_self ..)
    rw [List.nodup_cons] at hn
    have h := len_le_of_subset (m := m.erase x) hn.2 fun y hy => (List.mem_erase_of_ne fun e => hn.1 (by rw [← e]; exact hy)).mpr (hs y (List.mem_cons_of_mem _ hy))
    rw [List.length_erase_of_mem hx] at h
    have : 0 < m.length := List.length_pos_of_mem hx
    rw [List.length_cons]; omega
theorem forGo_rel {α σ : Type} {gt : PyData → DE → Option DE} {body : DE → Option Out} {f : α → PyData} {step : σ → α → σ} {R : DE → σ → Prop} :
    ∀ {xs : List α}, (∀ x ∈ xs, ∀ env s, R env s → ∃ e1 env', gt (f x) env = some e1 ∧ body e1 = some (.nx env') ∧ R env' (step s x)) → ∀ {env : DE} {s : σ}, R env s → ∃ env', forGo gt body (xs.map f) env = some (.nx env') ∧ R env' (xs.foldl step s)
  | [], _, env, s, r => ⟨env, rfl, r⟩
  | x :: xs, h, env, s, r => by
    obtain ⟨e1, env1, h1, h2, r1⟩ := h x (List.mem_cons_self ..) env s r
    obtain ⟨env2, h3, r2⟩ := forGo_rel (fun y hy => h y (List.mem_cons_of_mem _ hy)) r1
    refine ⟨env2, ?_, r2⟩
    rw [List.map_cons]
    unfold forGo
    rw [h1, Option.bind_some, h2, Option.bind_some]
    exact h3
abbrev LL := List (List Nat)
def addN (s : LL × LL) (t : List Nat) : LL × LL := if t ∈ s.1 then s else (s.1 ++ [t], s.2 ++ [t])
def hereN (a l k : Nat) (s : LL × LL) (here : List Nat) : LL × LL := (takN a l k here).foldl (fun s t => addN s (here.set t.2 t.1)) s
def levelN (a l k : Nat) (found rows : LL) : LL × LL := rows.foldl (hereN a l k) (found, [])
def bfsN (a l k : Nat) : Nat → LL → LL → LL
  | 0, found, _ => found
  | n + 1, found, rows => if rows = [] then found else bfsN a l k n (levelN a l k found rows).1 (levelN a l k found rows).2
/-- the state of a walk: found0 is found at the start of the level -/
structure Wk (a l k : Nat) (f0 : LL) (s : LL × LL) : Prop where
  nd : s.1.Nodup
  sub : ∀ c ∈ s.1, c ∈ mapsN a l k
  eq : s.1 = f0 ++ s.2
theorem Wk.add {a l k : Nat} {f0 : LL} {s : LL × LL} (w : Wk a l k f0 s) {t : List Nat} (ht : t ∈ mapsN a l k) : Wk a l k f0 (addN s t) := by
  unfold addN
  split
  · exact w
  · rename_i h
    refine ⟨?_, ?_, ?_⟩
    · rw [List.nodup_append]
      refine ⟨w.nd, by simp, fun x hx y hy => ?_⟩
      rw [List.mem_singleton] at hy
      subst hy
      exact fun e => h (e ▸ hx)
    · intro c hc
      rcases List.mem_append.mp hc with hc | hc
      · exact w.sub c hc
      · rw [List.mem_singleton.mp hc]; exact ht
    · show s.1 ++ [t] = f0 ++ (s.2 ++ [t])
      rw [w.eq, List.append_assoc]
theorem Wk.fold {α : Type} {a l k : Nat} {f0 : LL} (g : α → List Nat) : ∀ {xs : List α} {s : LL × LL}, Wk a l k f0 s → (∀ x ∈ xs, g x ∈ mapsN a l k) → Wk a l k f0 (xs.foldl (fun s x => addN s (g x)) s)
  | [], _, w, _ => w
  | x :: xs, s, w, h => by
    rw [List.foldl_cons]
    exact Wk.fold g (w.add (h x (List.mem_cons_self ..))) fun y hy => h y (List.mem_cons_of_mem _ hy)
theorem Wk.here {a l k : Nat} (D : Dom a l k) {f0 : LL} {s : LL × LL} (w : Wk a l k f0 s) {c : List Nat} (hc : c ∈ mapsN a l k) : Wk a l k f0 (hereN a l k s c) := w.fold _ fun t ht => D.closed c hc t ht
theorem Wk.level {a l k : Nat} (D : Dom a l k) {f0 : LL} : ∀ {rows : LL} {s : LL × LL}, Wk a l k f0 s → (∀ c ∈ rows, c ∈ mapsN a l k) → Wk a l k f0 (rows.foldl (hereN a l k) s)
  | [], _, w, _ => w
  | c :: rows, s, w, h => by
    rw [List.foldl_cons]
    exact Wk.level D (w.here D (h c (List.mem_cons_self ..))) fun y hy => h y (List.mem_cons_of_mem _ hy)
theorem Wk.few {a l k : Nat} {f0 : LL} {s : LL × LL} (w : Wk a l k f0 s) : s.1.length ≤ (mapsN a l k).length ∧ s.2.length ≤ s.1.length :=
  ⟨len_le_of_subset w.nd w.sub, by rw [w.eq, List.length_append]; omega⟩
/-- the walk of levels, whole -/
theorem bfs_while {a l k : Nat} (D : Dom a l k) {t : DE → Option Bool} {g : DE → Option Out} {R : DE → LL × LL → Prop}
    (ht : ∀ env found rows, R env (found, rows) → t env = some (!decide (rows = [])))
    (hg : ∀ env found rows, R env (found, rows) → Wk a l k found (found, []) → (∀ c ∈ rows, c ∈ found) → ∃ env', g env = some (.nx env') ∧ R env' (levelN a l k found rows)) :
    ∀ (n : Nat) (env : DE) (found rows : LL), R env (found, rows) → Wk a l k found (found, []) → (∀ c ∈ rows, c ∈ found) → (mapsN a l k).length - found.length + (if rows = [] then 1 else 2) ≤ n →
      ∃ env' m, sWhile t g n env = some (.nx env') ∧ R env' (bfsN a l k n found rows, []) ∧ bfsN a l k n found rows = found ++ m ∧ (bfsN a l k n found rows).Nodup ∧ ∀ c ∈ bfsN a l k n found rows, c ∈ mapsN a l k := by
  intro n
  induction n with
  | zero => intro env found rows r w hr hn; split at hn <;> omega
  | succ n ih =>
    intro env found rows r w hr hn
    unfold sWhile bfsN
    rw [ht env found rows r]
    by_cases e : rows = []
    · subst e
      rw [if_pos rfl]
      exact ⟨env, [], rfl, r, (List.append_nil _).symm, w.nd, w.sub⟩
    · rw [if_neg e]
      rw [if_neg e] at hn
      obtain ⟨env1, h1, r1⟩ := hg env found rows r w hr
      have w1 : Wk a l k found (levelN a l k found rows) := Wk.level D w fun c hc => w.sub c (hr c hc)
      have w2 : Wk a l k (levelN a l k found rows).1 ((levelN a l k found rows).1, []) := ⟨w1.nd, w1.sub, by simp⟩
      have hsub : ∀ c ∈ (levelN a l k found rows).2, c ∈ (levelN a l k found rows).1 := fun c hc => by rw [w1.eq]; exact List.mem_append_right _ hc
      have f1 := w1.few.1
      have f2 : (levelN a l k found rows).1.length = found.length + (levelN a l k found rows).2.length := by rw [w1.eq, List.length_append]
      have f3 : (mapsN a l k).length - (levelN a l k found rows).1.length + (if (levelN a l k found rows).2 = [] then 1 else 2) ≤ n := by
        split
        · omega
        · rename_i hne
          have : 0 < (levelN a l k found rows).2.length := List.length_pos_iff.mpr hne
          omega
      obtain ⟨env2, m, z1, z2, z3, z4, z5⟩ := ih env1 (levelN a l k found rows).1 (levelN a l k found rows).2 r1 w2 hsub f3
      refine ⟨env2, (levelN a l k found rows).2 ++ m, ?_, z2, by rw [z3, w1.eq, List.append_assoc], z4, z5⟩
      rw [decide_eq_false e, Option.bind_some, Bool.not_false, if_pos rfl, h1, Option.bind_some]
      exact z1
end K08
end

section
set_option Elab.async false
set_option linter.all false
set_option maxRecDepth 100000
set_option maxHeartbeats 4000000
/-! M7: F_all_of_class and F__law_from are the walk. -/
namespace K08
open PySem FD
def lsD (a : Nat) (rows : LL) : DV := .dat (.list (rows.map (chP a)))
def RI (V : PyData → Prop) (a : Nat) (x0 x2 x4 : Option (Bool × DV)) (env : DE) (s : LL × LL) : Prop :=
  ∃ kvs, env = [x0, some (true, .dct kvs), x2, some (true, lsD a s.2), x4, none, none] ∧ kvs.map (·.1) = s.1.map (chK a) ∧ ∀ p ∈ kvs, V p.2
def RB (V : PyData → Prop) (a : Nat) (x0 : Option (Bool × DV)) (env : DE) (s : LL × LL) : Prop :=
  ∃ kvs, env = [x0, some (true, .dct kvs), some (false, lsD a s.2), none, none, none, none] ∧ kvs.map (·.1) = s.1.map (chK a) ∧ ∀ p ∈ kvs, V p.2
theorem dIn_ch (a : Nat) (c : List Nat) (kvs : List (NestedKey × PyData)) : dIn true (chD a c) (.dct kvs) = some (dB (!(dFind kvs (chK a c)).isSome)) := by
  show (keyT (chD a c)).map _ = _
  rw [keyT_ch, Option.map_some]
  simp
theorem mem_keys {a : Nat} {c : List Nat} {kvs : List (NestedKey × PyData)} {found : LL} (h : kvs.map (·.1) = found.map (chK a)) : chK a c ∈ kvs.map (·.1) ↔ c ∈ found := by
  rw [h, List.mem_map]
  exact ⟨fun ⟨x, hx, e⟩ => chK_inj e ▸ hx, fun hc => ⟨c, hc, rfl⟩⟩
theorem keys_len {a : Nat} {kvs : List (NestedKey × PyData)} {found : LL} (h : kvs.map (·.1) = found.map (chK a)) : kvs.length = found.length := by
  have := congrArg List.length h
  rwa [List.length_map, List.length_map] at this
theorem lsD_app (a : Nat) (rows : LL) (c : List Nat) : PyData.list (rows.map (chP a) ++ [chP a c]) = PyData.list ((rows ++ [c]).map (chP a)) := by rw [List.map_append]; rfl
variable {a l k : Nat}
def gInner (tk : List DV → Option DV) (fv : DE → Option DV) : DE → Option Out := (sClr [5, 6] (sSeq (sSet false 6 (eCall tk (aCons (eVar 4) (aCons (eVar 5) aNil)))) (sSeq (sIf (eTru (e2 (dIn true) (eVar 6) (eRd 1))) (sSeq (sPut 1 fv (eVar 6)) (sSeq (sApp 3 (eVar 6)) sNil)) sNil) sNil)))
theorem inner_ok (D : Dom a l k) {V : PyData → Prop} {tk : List DV → Option DV} {fv : DE → Option DV} {here : List Nat} (hh : here ∈ mapsN a l k) {x0 x2 : Option (Bool × DV)} {f0 : LL}
    (htk : ∀ t ∈ takN a l k here, tk [chD a here, .dat (pairD t)] = some (chD a (here.set t.2 t.1)))
    (hfv : ∀ kvs x3 x5 x6, (∀ p ∈ kvs, V p.2) → chK a here ∈ kvs.map (·.1) → ∃ d, V d ∧ fv [x0, some (true, .dct kvs), x2, x3, some (false, chD a here), x5, x6] = some (.dat d))
    {t : Nat × Nat} (ht : t ∈ takN a l k here) {env : DE} {s : LL × LL} (r : RI V a x0 x2 (some (false, chD a here)) env s ∧ Wk a l k f0 s ∧ here ∈ s.1) :
    ∃ e1 env', gtN 5 (pairD t) env = some e1 ∧ gInner tk fv e1 = some (.nx env') ∧ RI V a x0 x2 (some (false, chD a here)) env' (addN s (here.set t.2 t.1)) ∧ Wk a l k f0 (addN s (here.set t.2 t.1)) ∧ here ∈ (addN s (here.set t.2 t.1)).1 := by
  obtain ⟨⟨kvs, rfl, hk, hV⟩, w, hf⟩ := r
  have w' := w.add (D.closed here hh t ht)
  have hf' : here ∈ (addN s (here.set t.2 t.1)).1 := by
    unfold addN; split
    · exact hf
    · exact List.mem_append_left _ hf
  have few := w.few
  have fk := keys_len hk
  have fw := D.few
  obtain ⟨d, hd, ed⟩ := hfv kvs (some (true, lsD a s.2)) (some (false, .dat (pairD t))) (some (false, chD a (here.set t.2 t.1))) hV ((mem_keys hk).mpr hf)
  by_cases hc : here.set t.2 t.1 ∈ s.1
  · refine ⟨_, _, rfl, ?_, ⟨kvs, rfl, ?_, hV⟩, w', hf'⟩
    · unfold gInner
      simp only [fnF, startD, sSeq, sNil, sRet, sIf, sSet, sExpr, sTup, sPar, sPar3, sFrz, sRetO, sFor, sNever, sClr, FD.e1, FD.e2, FD.e3, eVar, eRd, eC, eCall, aCons, aNil, eAnd, eOr, eNot, eIf, eTru, tNotF, tAndF, tOrF, eTupL, eLstL, lCons, lNil, lStar, eSl, pN, pS, iSeq, iKeys, iEnum, items, setAll, gtN, gtT, Option.bind_some, Option.map_some, Option.bind_none, Option.map_none, List.map_cons, List.map_nil, List.length_cons, List.length_nil, List.replicate, List.nil_append, List.cons_append, List.append_nil, List.getElem?_cons_zero, List.getElem?_cons_succ, List.set_cons_zero, List.set_cons_succ, Nat.reduceSub, Nat.reduceAdd, Nat.reduceLeDiff, wipeD, if_true, if_false, Bool.false_eq_true, dTru, dB, Bool.not_true, Bool.not_false, htk t ht, dIn_ch]
      rw [dFind_iff.mpr ((mem_keys hk).mpr hc)]
      simp only [fnF, startD, sSeq, sNil, sRet, sIf, sSet, sExpr, sTup, sPar, sPar3, sFrz, sRetO, sFor, sNever, sClr, FD.e1, FD.e2, FD.e3, eVar, eRd, eC, eCall, aCons, aNil, eAnd, eOr, eNot, eIf, eTru, tNotF, tAndF, tOrF, eTupL, eLstL, lCons, lNil, lStar, eSl, pN, pS, iSeq, iKeys, iEnum, items, setAll, gtN, gtT, Option.bind_some, Option.map_some, Option.bind_none, Option.map_none, List.map_cons, List.map_nil, List.length_cons, List.length_nil, List.replicate, List.nil_append, List.cons_append, List.append_nil, List.getElem?_cons_zero, List.getElem?_cons_succ, List.set_cons_zero, List.set_cons_succ, Nat.reduceSub, Nat.reduceAdd, Nat.reduceLeDiff, wipeD, if_true, if_false, Bool.false_eq_true, dTru, dB, Bool.not_true, Bool.not_false, lsD]
      unfold addN
      rw [if_pos hc]
    · unfold addN; rw [if_pos hc]; exact hk
  · have hn : chK a (here.set t.2 t.1) ∉ kvs.map (·.1) := fun z => hc ((mem_keys hk).mp z)
    have hf2 : (dFind kvs (chK a (here.set t.2 t.1))).isSome = false := Bool.eq_false_iff.mpr fun z => hn (dFind_iff.mp z)
    refine ⟨_, _, rfl, ?_, ⟨dPut kvs (chK a (here.set t.2 t.1)) d, rfl, ?_, ?_⟩, w', hf'⟩
    · unfold gInner
      simp only [fnF, startD, sSeq, sNil, sRet, sIf, sSet, sExpr, sTup, sPar, sPar3, sFrz, sRetO, sFor, sNever, sClr, FD.e1, FD.e2, FD.e3, eVar, eRd, eC, eCall, aCons, aNil, eAnd, eOr, eNot, eIf, eTru, tNotF, tAndF, tOrF, eTupL, eLstL, lCons, lNil, lStar, eSl, pN, pS, iSeq, iKeys, iEnum, items, setAll, gtN, gtT, Option.bind_some, Option.map_some, Option.bind_none, Option.map_none, List.map_cons, List.map_nil, List.length_cons, List.length_nil, List.replicate, List.nil_append, List.cons_append, List.append_nil, List.getElem?_cons_zero, List.getElem?_cons_succ, List.set_cons_zero, List.set_cons_succ, Nat.reduceSub, Nat.reduceAdd, Nat.reduceLeDiff, wipeD, if_true, if_false, Bool.false_eq_true, dTru, dB, Bool.not_true, Bool.not_false, htk t ht, dIn_ch]
      rw [hf2]
      simp only [fnF, startD, sSeq, sNil, sRet, sIf, sSet, sExpr, sTup, sPar, sPar3, sFrz, sRetO, sFor, sNever, sClr, FD.e1, FD.e2, FD.e3, eVar, eRd, eC, eCall, aCons, aNil, eAnd, eOr, eNot, eIf, eTru, tNotF, tAndF, tOrF, eTupL, eLstL, lCons, lNil, lStar, eSl, pN, pS, iSeq, iKeys, iEnum, items, setAll, gtN, gtT, Option.bind_some, Option.map_some, Option.bind_none, Option.map_none, List.map_cons, List.map_nil, List.length_cons, List.length_nil, List.replicate, List.nil_append, List.cons_append, List.append_nil, List.getElem?_cons_zero, List.getElem?_cons_succ, List.set_cons_zero, List.set_cons_succ, Nat.reduceSub, Nat.reduceAdd, Nat.reduceLeDiff, wipeD, if_true, if_false, Bool.false_eq_true, dTru, dB, Bool.not_true, Bool.not_false, sPut, ed, keyT_ch]
      rw [if_pos (by omega)]
      simp only [fnF, startD, sSeq, sNil, sRet, sIf, sSet, sExpr, sTup, sPar, sPar3, sFrz, sRetO, sFor, sNever, sClr, FD.e1, FD.e2, FD.e3, eVar, eRd, eC, eCall, aCons, aNil, eAnd, eOr, eNot, eIf, eTru, tNotF, tAndF, tOrF, eTupL, eLstL, lCons, lNil, lStar, eSl, pN, pS, iSeq, iKeys, iEnum, items, setAll, gtN, gtT, Option.bind_some, Option.map_some, Option.bind_none, Option.map_none, List.map_cons, List.map_nil, List.length_cons, List.length_nil, List.replicate, List.nil_append, List.cons_append, List.append_nil, List.getElem?_cons_zero, List.getElem?_cons_succ, List.set_cons_zero, List.set_cons_succ, Nat.reduceSub, Nat.reduceAdd, Nat.reduceLeDiff, wipeD, if_true, if_false, Bool.false_eq_true, dTru, dB, Bool.not_true, Bool.not_false, sApp, lsD, chD]
      rw [List.length_map, if_pos (by omega)]
      simp only [fnF, startD, sSeq, sNil, sRet, sIf, sSet, sExpr, sTup, sPar, sPar3, sFrz, sRetO, sFor, sNever, sClr, FD.e1, FD.e2, FD.e3, eVar, eRd, eC, eCall, aCons, aNil, eAnd, eOr, eNot, eIf, eTru, tNotF, tAndF, tOrF, eTupL, eLstL, lCons, lNil, lStar, eSl, pN, pS, iSeq, iKeys, iEnum, items, setAll, gtN, gtT, Option.bind_some, Option.map_some, Option.bind_none, Option.map_none, List.map_cons, List.map_nil, List.length_cons, List.length_nil, List.replicate, List.nil_append, List.cons_append, List.append_nil, List.getElem?_cons_zero, List.getElem?_cons_succ, List.set_cons_zero, List.set_cons_succ, Nat.reduceSub, Nat.reduceAdd, Nat.reduceLeDiff, wipeD, if_true, if_false, Bool.false_eq_true, dTru, dB, Bool.not_true, Bool.not_false, lsD_app]
      unfold addN
      rw [if_neg hc]
    · rw [dPut_new hn]; unfold addN; rw [if_neg hc, List.map_append, List.map_append, hk]; rfl
    · rw [dPut_new hn]
      intro p hp
      rcases List.mem_append.mp hp with hp | hp
      · exact hV p hp
      · rw [List.mem_singleton.mp hp]; exact hd
end K08
end

section
set_option Elab.async false
set_option linter.all false
set_option maxRecDepth 100000
set_option maxHeartbeats 4000000
/-! M8: the walks, whole. -/
namespace K08
open PySem FD
variable {a l k : Nat}
def gOuter (tks tk : List DV → Option DV) (fv : DE → Option DV) : DE → Option Out := sClr [4, 5, 6] (sSeq (sFor (iSeq (eCall tks (aCons (eVar 4) aNil))) (gtN 5) (gInner tk fv)) sNil)
def gLevel (tks tk : List DV → Option DV) (fv : DE → Option DV) : DE → Option Out := sClr [3, 4, 5, 6] (sSeq (sSet true 3 (eLstL lNil)) (sSeq (sFor (iSeq (eVar 2)) (gtN 4) (gOuter tks tk fv)) (sSeq (sFrz 2 3) sNil)))
theorem hereN_mem {f0 : LL} {s : LL × LL} (w : Wk a l k f0 s) {c : List Nat} (h : c ∈ f0) : c ∈ s.1 := by rw [w.eq]; exact List.mem_append_left _ h
theorem outer_ok (D : Dom a l k) {V : PyData → Prop} {tks tk : List DV → Option DV} {fv : DE → Option DV} {here : List Nat} (hh : here ∈ mapsN a l k) {x0 x2 : Option (Bool × DV)} {f0 : LL} (h0 : here ∈ f0)
    (htks : tks [chD a here] = some (.dat (.list ((takN a l k here).map pairD))))
    (htk : ∀ t ∈ takN a l k here, tk [chD a here, .dat (pairD t)] = some (chD a (here.set t.2 t.1)))
    (hfv : ∀ kvs x3 x5 x6, (∀ p ∈ kvs, V p.2) → chK a here ∈ kvs.map (·.1) → ∃ d, V d ∧ fv [x0, some (true, .dct kvs), x2, x3, some (false, chD a here), x5, x6] = some (.dat d))
    {env : DE} {s : LL × LL} (r : RI V a x0 x2 none env s ∧ Wk a l k f0 s) :
    ∃ e1 env', gtN 4 (chP a here) env = some e1 ∧ gOuter tks tk fv e1 = some (.nx env') ∧ RI V a x0 x2 none env' (hereN a l k s here) ∧ Wk a l k f0 (hereN a l k s here) := by
  obtain ⟨⟨kvs, rfl, hk, hV⟩, w⟩ := r
  obtain ⟨env2, h1, ⟨kvs2, rfl, hk2, hV2⟩, w2, _⟩ := forGo_rel (f := pairD) (gt := gtN 5) (body := gInner tk fv) (R := fun env s => RI V a x0 x2 (some (false, chD a here)) env s ∧ Wk a l k f0 s ∧ here ∈ s.1) (xs := takN a l k here) (step := fun s t => addN s (here.set t.2 t.1)) (fun t ht env s r => inner_ok D hh (x0 := x0) (x2 := x2) (f0 := f0) htk hfv ht r) (env := [x0, some (true, .dct kvs), x2, some (true, lsD a s.2), some (false, chD a here), none, none]) (s := s) ⟨⟨kvs, rfl, hk, hV⟩, w, hereN_mem w h0⟩
  refine ⟨_, _, rfl, ?_, ⟨kvs2, rfl, hk2, hV2⟩, w2⟩
  unfold gOuter
  have e : chD a here = .dat (chP a here) := rfl
  simp only [fnF, startD, sSeq, sNil, sRet, sIf, sSet, sExpr, sTup, sPar, sPar3, sFrz, sRetO, sFor, sNever, sClr, FD.e1, FD.e2, FD.e3, eVar, eRd, eC, eCall, aCons, aNil, eAnd, eOr, eNot, eIf, eTru, tNotF, tAndF, tOrF, eTupL, eLstL, lCons, lNil, lStar, eSl, pN, pS, iSeq, iKeys, iEnum, items, setAll, gtN, gtT, Option.bind_some, Option.map_some, Option.bind_none, Option.map_none, List.map_cons, List.map_nil, List.length_cons, List.length_nil, List.replicate, List.nil_append, List.cons_append, List.append_nil, List.getElem?_cons_zero, List.getElem?_cons_succ, List.set_cons_zero, List.set_cons_succ, Nat.reduceSub, Nat.reduceAdd, Nat.reduceLeDiff, wipeD, if_true, if_false, Bool.false_eq_true, dTru, dB, Bool.not_true, Bool.not_false]
  rw [← e, htks]
  simp only [fnF, startD, sSeq, sNil, sRet, sIf, sSet, sExpr, sTup, sPar, sPar3, sFrz, sRetO, sFor, sNever, sClr, FD.e1, FD.e2, FD.e3, eVar, eRd, eC, eCall, aCons, aNil, eAnd, eOr, eNot, eIf, eTru, tNotF, tAndF, tOrF, eTupL, eLstL, lCons, lNil, lStar, eSl, pN, pS, iSeq, iKeys, iEnum, items, setAll, gtN, gtT, Option.bind_some, Option.map_some, Option.bind_none, Option.map_none, List.map_cons, List.map_nil, List.length_cons, List.length_nil, List.replicate, List.nil_append, List.cons_append, List.append_nil, List.getElem?_cons_zero, List.getElem?_cons_succ, List.set_cons_zero, List.set_cons_succ, Nat.reduceSub, Nat.reduceAdd, Nat.reduceLeDiff, wipeD, if_true, if_false, Bool.false_eq_true, dTru, dB, Bool.not_true, Bool.not_false]
  rw [h1]
  simp only [fnF, startD, sSeq, sNil, sRet, sIf, sSet, sExpr, sTup, sPar, sPar3, sFrz, sRetO, sFor, sNever, sClr, FD.e1, FD.e2, FD.e3, eVar, eRd, eC, eCall, aCons, aNil, eAnd, eOr, eNot, eIf, eTru, tNotF, tAndF, tOrF, eTupL, eLstL, lCons, lNil, lStar, eSl, pN, pS, iSeq, iKeys, iEnum, items, setAll, gtN, gtT, Option.bind_some, Option.map_some, Option.bind_none, Option.map_none, List.map_cons, List.map_nil, List.length_cons, List.length_nil, List.replicate, List.nil_append, List.cons_append, List.append_nil, List.getElem?_cons_zero, List.getElem?_cons_succ, List.set_cons_zero, List.set_cons_succ, Nat.reduceSub, Nat.reduceAdd, Nat.reduceLeDiff, wipeD, if_true, if_false, Bool.false_eq_true, dTru, dB, Bool.not_true, Bool.not_false]
  rfl
theorem level_ok (D : Dom a l k) {V : PyData → Prop} {tks tk : List DV → Option DV} {fv : DE → Option DV} {x0 : Option (Bool × DV)}
    (htks : ∀ here ∈ mapsN a l k, tks [chD a here] = some (.dat (.list ((takN a l k here).map pairD))))
    (htk : ∀ here ∈ mapsN a l k, ∀ t ∈ takN a l k here, tk [chD a here, .dat (pairD t)] = some (chD a (here.set t.2 t.1)))
    (hfv : ∀ here kvs x2 x3 x5 x6, (∀ p ∈ kvs, V p.2) → chK a here ∈ kvs.map (·.1) → ∃ d, V d ∧ fv [x0, some (true, .dct kvs), x2, x3, some (false, chD a here), x5, x6] = some (.dat d))
    {env : DE} {found rows : LL} (r : RB V a x0 env (found, rows)) (w : Wk a l k found (found, [])) (hr : ∀ c ∈ rows, c ∈ found) :
    ∃ env', gLevel tks tk fv env = some (.nx env') ∧ RB V a x0 env' (levelN a l k found rows) := by
  obtain ⟨kvs, rfl, hk, hV⟩ := r
  obtain ⟨env2, h1, ⟨kvs2, rfl, hk2, hV2⟩, w2⟩ := forGo_rel (f := chP a) (xs := rows) (step := hereN a l k) (R := fun env s => RI V a x0 (some (false, lsD a rows)) none env s ∧ Wk a l k found s)
    (fun here hh env s r => outer_ok D (w.sub here (hr here hh)) (hr here hh) (htks here (w.sub here (hr here hh))) (htk here (w.sub here (hr here hh))) (fun kvs x3 x5 x6 => hfv here kvs _ x3 x5 x6) r)
    (env := [x0, some (true, .dct kvs), some (false, lsD a rows), some (true, lsD a []), none, none, none]) (s := (found, [])) ⟨⟨kvs, rfl, hk, hV⟩, w⟩
  refine ⟨_, ?_, kvs2, rfl, hk2, hV2⟩
  unfold gLevel
  have e : (PyData.list []) = .list (([] : LL).map (chP a)) := rfl
  simp only [fnF, startD, sSeq, sNil, sRet, sIf, sSet, sExpr, sTup, sPar, sPar3, sFrz, sRetO, sFor, sNever, sClr, FD.e1, FD.e2, FD.e3, eVar, eRd, eC, eCall, aCons, aNil, eAnd, eOr, eNot, eIf, eTru, tNotF, tAndF, tOrF, eTupL, eLstL, lCons, lNil, lStar, eSl, pN, pS, iSeq, iKeys, iEnum, items, setAll, gtN, gtT, Option.bind_some, Option.map_some, Option.bind_none, Option.map_none, List.map_cons, List.map_nil, List.length_cons, List.length_nil, List.replicate, List.nil_append, List.cons_append, List.append_nil, List.getElem?_cons_zero, List.getElem?_cons_succ, List.set_cons_zero, List.set_cons_succ, Nat.reduceSub, Nat.reduceAdd, Nat.reduceLeDiff, wipeD, if_true, if_false, Bool.false_eq_true, dTru, dB, Bool.not_true, Bool.not_false, lsD]
  unfold lsD at h1
  rw [e, h1]
  simp only [fnF, startD, sSeq, sNil, sRet, sIf, sSet, sExpr, sTup, sPar, sPar3, sFrz, sRetO, sFor, sNever, sClr, FD.e1, FD.e2, FD.e3, eVar, eRd, eC, eCall, aCons, aNil, eAnd, eOr, eNot, eIf, eTru, tNotF, tAndF, tOrF, eTupL, eLstL, lCons, lNil, lStar, eSl, pN, pS, iSeq, iKeys, iEnum, items, setAll, gtN, gtT, Option.bind_some, Option.map_some, Option.bind_none, Option.map_none, List.map_cons, List.map_nil, List.length_cons, List.length_nil, List.replicate, List.nil_append, List.cons_append, List.append_nil, List.getElem?_cons_zero, List.getElem?_cons_succ, List.set_cons_zero, List.set_cons_succ, Nat.reduceSub, Nat.reduceAdd, Nat.reduceLeDiff, wipeD, if_true, if_false, Bool.false_eq_true, dTru, dB, Bool.not_true, Bool.not_false]
  rfl
theorem plainAll_iD : ∀ l : List Nat, PyData.plainAll (l.map iD) = true
  | [] => rfl
  | n :: l => by rw [List.map_cons, PyData.plainAll, plainAll_iD l]; rfl
theorem plain_tu (l : List Nat) : (tuN l).plain = true := by unfold tuN; rw [PyData.plain, plainAll_iD]
theorem plain_ch (a : Nat) (l : List Nat) : (chP a l).plain = true := by
  unfold chP
  rw [PyData.plain, PyData.plainAll, PyData.plainAll, PyData.plainAll, plain_tu]; rfl
theorem plainAll_ch (a : Nat) : ∀ rows : LL, PyData.plainAll (rows.map (chP a)) = true
  | [] => rfl
  | c :: rows => by rw [List.map_cons, PyData.plainAll, plainAll_ch a rows, plain_ch]; rfl
theorem dNe_nil {a : Nat} {rows : LL} (h : rows ≠ []) : dNe (lsD a rows) (.dat (.list [])) = some (dB true) := by
  have e : eqOk (.list (rows.map (chP a))) (.list []) = true := by
    unfold eqOk
    rw [PyData.plain, plainAll_ch, PyData.plain, PyData.plainAll]
    have : min (PyData.list (rows.map (chP a))).depth (PyData.list []).depth ≤ 50 := Nat.le_trans (Nat.min_le_right _ _) (by decide)
    rw [decide_eq_true this]; rfl
  have e2 : PyData.eqv (.list (rows.map (chP a))) (.list []) = false := by
    cases rows with
    | nil => exact absurd rfl h
    | cons c rows => simp [PyData.eqv, PyData.eqvAll]
  show (if eqOk (.list (rows.map (chP a))) (.list []) = true then some (dB (!PyData.eqv (.list (rows.map (chP a))) (.list []))) else none) = _
  rw [if_pos e, e2]; rfl
/-- the class of a map, in the order of the walk -/
def classN (a l k : Nat) (c : List Nat) : LL := bfsN a l k 2000 [c] [c]
structure Cls (a l k : Nat) (c : List Nat) : Prop where
  all : F_all_of_class [chD a c] = some (lsD a (classN a l k c))
  law : ∃ kvs, F__law_from [chD a c] = some (.dct kvs) ∧ kvs.map (·.1) = (classN a l k c).map (chK a)
  me : c ∈ classN a l k c
  nd : (classN a l k c).Nodup
  sub : ∀ x ∈ classN a l k c, x ∈ mapsN a l k
theorem cls_all (D : Dom a l k) {c : List Nat} (hc : c ∈ mapsN a l k) : Cls a l k c := by
  have w : Wk a l k [c] ([c], []) := ⟨by simp, fun x hx => by rw [List.mem_singleton.mp hx]; exact hc, rfl⟩
  have few := D.few
  have fuel : (mapsN a l k).length - [c].length + (if [c] = [] then 1 else 2) ≤ 2000 := by rw [if_neg (by simp)]; simp; omega
  obtain ⟨env1, m, h1, ⟨kvs1, rfl, k1, v1⟩, h3, h4, h5⟩ := bfs_while D (t := eTru (eVar 2)) (g := gLevel F_all_takings F_taken (eC (.bool true))) (R := RB (fun _ => True) a (some (false, chD a c)))
    (fun env found rows ⟨kvs, e, _, _⟩ => by
      subst e
      simp only [fnF, startD, sSeq, sNil, sRet, sIf, sSet, sExpr, sTup, sPar, sPar3, sFrz, sRetO, sFor, sNever, sClr, FD.e1, FD.e2, FD.e3, eVar, eRd, eC, eCall, aCons, aNil, eAnd, eOr, eNot, eIf, eTru, tNotF, tAndF, tOrF, eTupL, eLstL, lCons, lNil, lStar, eSl, pN, pS, iSeq, iKeys, iEnum, items, setAll, gtN, gtT, Option.bind_some, Option.map_some, Option.bind_none, Option.map_none, List.map_cons, List.map_nil, List.length_cons, List.length_nil, List.replicate, List.nil_append, List.cons_append, List.append_nil, List.getElem?_cons_zero, List.getElem?_cons_succ, List.set_cons_zero, List.set_cons_succ, Nat.reduceSub, Nat.reduceAdd, Nat.reduceLeDiff, wipeD, if_true, if_false, Bool.false_eq_true, dTru, dB, Bool.not_true, Bool.not_false, lsD]
      cases rows <;> simp)
    (fun env found rows r w hr => level_ok D D.tak D.tkn (fun here kvs x2 x3 x5 x6 _ _ => ⟨_, trivial, rfl⟩) r w hr)
    2000 [some (false, chD a c), some (true, .dct [(chK a c, .bool true)]), some (false, lsD a [c]), none, none, none, none] [c] [c] ⟨_, rfl, rfl, fun _ _ => trivial⟩ w (fun _ h => h) fuel
  obtain ⟨env2, m2, g1, ⟨kvs2, rfl, k2, v2⟩, _⟩ := bfs_while D (t := eTru (e2 dNe (eVar 2) (eLstL lNil))) (g := gLevel F__law_takings F__law_behind (e2 dAdd (e2 dGet (eRd 1) (eVar 4)) (eC (.int 1)))) (R := RB (fun d => ∃ i, d = .int i) a (some (false, chD a c)))
    (fun env found rows ⟨kvs, e, _, _⟩ => by
      subst e
      simp only [fnF, startD, sSeq, sNil, sRet, sIf, sSet, sExpr, sTup, sPar, sPar3, sFrz, sRetO, sFor, sNever, sClr, FD.e1, FD.e2, FD.e3, eVar, eRd, eC, eCall, aCons, aNil, eAnd, eOr, eNot, eIf, eTru, tNotF, tAndF, tOrF, eTupL, eLstL, lCons, lNil, lStar, eSl, pN, pS, iSeq, iKeys, iEnum, items, setAll, gtN, gtT, Option.bind_some, Option.map_some, Option.bind_none, Option.map_none, List.map_cons, List.map_nil, List.length_cons, List.length_nil, List.replicate, List.nil_append, List.cons_append, List.append_nil, List.getElem?_cons_zero, List.getElem?_cons_succ, List.set_cons_zero, List.set_cons_succ, Nat.reduceSub, Nat.reduceAdd, Nat.reduceLeDiff, wipeD, if_true, if_false, Bool.false_eq_true, dTru, dB, Bool.not_true, Bool.not_false, lsD]
      cases rows with
      | nil => rfl
      | cons x rows =>
        rw [← show lsD a (x :: rows) = .dat (.list ((x :: rows).map (chP a))) from rfl, dNe_nil (by simp)]
        rfl)
    (fun env found rows r w hr => level_ok D D.tak2 D.tkn2 (fun here kvs x2 x3 x5 x6 hv hm => by
      obtain ⟨d, hd⟩ := Option.isSome_iff_exists.mp (dFind_iff.mpr hm)
      obtain ⟨i, rfl⟩ := hv _ (dFind_mem hd)
      refine ⟨_, ⟨i + 1, rfl⟩, ?_⟩
      simp only [fnF, startD, sSeq, sNil, sRet, sIf, sSet, sExpr, sTup, sPar, sPar3, sFrz, sRetO, sFor, sNever, sClr, FD.e1, FD.e2, FD.e3, eVar, eRd, eC, eCall, aCons, aNil, eAnd, eOr, eNot, eIf, eTru, tNotF, tAndF, tOrF, eTupL, eLstL, lCons, lNil, lStar, eSl, pN, pS, iSeq, iKeys, iEnum, items, setAll, gtN, gtT, Option.bind_some, Option.map_some, Option.bind_none, Option.map_none, List.map_cons, List.map_nil, List.length_cons, List.length_nil, List.replicate, List.nil_append, List.cons_append, List.append_nil, List.getElem?_cons_zero, List.getElem?_cons_succ, List.set_cons_zero, List.set_cons_succ, Nat.reduceSub, Nat.reduceAdd, Nat.reduceLeDiff, wipeD, if_true, if_false, Bool.false_eq_true, dTru, dB, Bool.not_true, Bool.not_false, dGet, keyT_ch, hd]
      rfl) r w hr)
    2000 [some (false, chD a c), some (true, .dct [(chK a c, .int 0)]), some (false, lsD a [c]), none, none, none, none] [c] [c] ⟨_, rfl, rfl, fun p hp => by rw [List.mem_singleton.mp hp]; exact ⟨0, rfl⟩⟩ w (fun _ h => h) fuel
  refine ⟨?_, ⟨kvs2, ?_, k2⟩, ?_, h4, h5⟩
  · have e : g_all_of_class = sSeq (sPar true 1 false 2 (aCons (eDct1 (eVar 0) (eC (.bool true))) (aCons (eLstL (lCons (eVar 0) lNil)) aNil))) (sSeq (sWhile (eTru (eVar 2)) (gLevel F_all_takings F_taken (eC (.bool true))) 2000) (sSeq (sRet (e1 dKeysL (eRd 1))) sNil)) := rfl
    have e2 : chD a c = .dat (chP a c) := rfl
    have e3 : lsD a [c] = .dat (.list [chP a c]) := rfl
    unfold F_all_of_class
    rw [e]
    simp only [fnF, startD, sSeq, sNil, sRet, sIf, sSet, sExpr, sTup, sPar, sPar3, sFrz, sRetO, sFor, sNever, sClr, FD.e1, FD.e2, FD.e3, eVar, eRd, eC, eCall, aCons, aNil, eAnd, eOr, eNot, eIf, eTru, tNotF, tAndF, tOrF, eTupL, eLstL, lCons, lNil, lStar, eSl, pN, pS, iSeq, iKeys, iEnum, items, setAll, gtN, gtT, Option.bind_some, Option.map_some, Option.bind_none, Option.map_none, List.map_cons, List.map_nil, List.length_cons, List.length_nil, List.replicate, List.nil_append, List.cons_append, List.append_nil, List.getElem?_cons_zero, List.getElem?_cons_succ, List.set_cons_zero, List.set_cons_succ, Nat.reduceSub, Nat.reduceAdd, Nat.reduceLeDiff, wipeD, if_true, if_false, Bool.false_eq_true, dTru, dB, Bool.not_true, Bool.not_false, eDct1, keyT_ch]
    rw [e2]
    simp only [fnF, startD, sSeq, sNil, sRet, sIf, sSet, sExpr, sTup, sPar, sPar3, sFrz, sRetO, sFor, sNever, sClr, FD.e1, FD.e2, FD.e3, eVar, eRd, eC, eCall, aCons, aNil, eAnd, eOr, eNot, eIf, eTru, tNotF, tAndF, tOrF, eTupL, eLstL, lCons, lNil, lStar, eSl, pN, pS, iSeq, iKeys, iEnum, items, setAll, gtN, gtT, Option.bind_some, Option.map_some, Option.bind_none, Option.map_none, List.map_cons, List.map_nil, List.length_cons, List.length_nil, List.replicate, List.nil_append, List.cons_append, List.append_nil, List.getElem?_cons_zero, List.getElem?_cons_succ, List.set_cons_zero, List.set_cons_succ, Nat.reduceSub, Nat.reduceAdd, Nat.reduceLeDiff, wipeD, if_true, if_false, Bool.false_eq_true, dTru, dB, Bool.not_true, Bool.not_false]
    rw [← e2, ← e3, h1]
    have f1 := keys_len k1
    have f2 := len_le_of_subset h4 h5
    have e4 : kvs1.map (fun p => p.1.data) = (classN a l k c).map (chP a) := by
      have := congrArg (List.map NestedKey.data) k1
      rw [List.map_map, List.map_map] at this
      rw [show (fun p : NestedKey × PyData => p.1.data) = (NestedKey.data ∘ fun x => x.1) from rfl, this]
      exact List.map_congr_left fun x _ => data_ch a x
    simp only [fnF, startD, sSeq, sNil, sRet, sIf, sSet, sExpr, sTup, sPar, sPar3, sFrz, sRetO, sFor, sNever, sClr, FD.e1, FD.e2, FD.e3, eVar, eRd, eC, eCall, aCons, aNil, eAnd, eOr, eNot, eIf, eTru, tNotF, tAndF, tOrF, eTupL, eLstL, lCons, lNil, lStar, eSl, pN, pS, iSeq, iKeys, iEnum, items, setAll, gtN, gtT, Option.bind_some, Option.map_some, Option.bind_none, Option.map_none, List.map_cons, List.map_nil, List.length_cons, List.length_nil, List.replicate, List.nil_append, List.cons_append, List.append_nil, List.getElem?_cons_zero, List.getElem?_cons_succ, List.set_cons_zero, List.set_cons_succ, Nat.reduceSub, Nat.reduceAdd, Nat.reduceLeDiff, wipeD, if_true, if_false, Bool.false_eq_true, dTru, dB, Bool.not_true, Bool.not_false, dKeysL, dKeys]
    rw [if_pos (by rw [List.length_map]; simp only at f1; omega), e4]
    rfl
  · have e : g__law_from = sSeq (sPar true 1 false 2 (aCons (eDct1 (eVar 0) (eC (.int 0))) (aCons (eLstL (lCons (eVar 0) lNil)) aNil))) (sSeq (sWhile (eTru (e2 dNe (eVar 2) (eLstL lNil))) (gLevel F__law_takings F__law_behind (e2 dAdd (e2 dGet (eRd 1) (eVar 4)) (eC (.int 1)))) 2000) (sSeq (sRetO 1) sNil)) := rfl
    have e2 : chD a c = .dat (chP a c) := rfl
    have e3 : lsD a [c] = .dat (.list [chP a c]) := rfl
    unfold F__law_from
    rw [e]
    simp only [fnF, startD, sSeq, sNil, sRet, sIf, sSet, sExpr, sTup, sPar, sPar3, sFrz, sRetO, sFor, sNever, sClr, FD.e1, FD.e2, FD.e3, eVar, eRd, eC, eCall, aCons, aNil, eAnd, eOr, eNot, eIf, eTru, tNotF, tAndF, tOrF, eTupL, eLstL, lCons, lNil, lStar, eSl, pN, pS, iSeq, iKeys, iEnum, items, setAll, gtN, gtT, Option.bind_some, Option.map_some, Option.bind_none, Option.map_none, List.map_cons, List.map_nil, List.length_cons, List.length_nil, List.replicate, List.nil_append, List.cons_append, List.append_nil, List.getElem?_cons_zero, List.getElem?_cons_succ, List.set_cons_zero, List.set_cons_succ, Nat.reduceSub, Nat.reduceAdd, Nat.reduceLeDiff, wipeD, if_true, if_false, Bool.false_eq_true, dTru, dB, Bool.not_true, Bool.not_false, eDct1, keyT_ch]
    rw [e2]
    simp only [fnF, startD, sSeq, sNil, sRet, sIf, sSet, sExpr, sTup, sPar, sPar3, sFrz, sRetO, sFor, sNever, sClr, FD.e1, FD.e2, FD.e3, eVar, eRd, eC, eCall, aCons, aNil, eAnd, eOr, eNot, eIf, eTru, tNotF, tAndF, tOrF, eTupL, eLstL, lCons, lNil, lStar, eSl, pN, pS, iSeq, iKeys, iEnum, items, setAll, gtN, gtT, Option.bind_some, Option.map_some, Option.bind_none, Option.map_none, List.map_cons, List.map_nil, List.length_cons, List.length_nil, List.replicate, List.nil_append, List.cons_append, List.append_nil, List.getElem?_cons_zero, List.getElem?_cons_succ, List.set_cons_zero, List.set_cons_succ, Nat.reduceSub, Nat.reduceAdd, Nat.reduceLeDiff, wipeD, if_true, if_false, Bool.false_eq_true, dTru, dB, Bool.not_true, Bool.not_false]
    rw [← e2, ← e3, g1]
    rfl
  · show c ∈ bfsN a l k 2000 [c] [c]
    rw [h3]; simp
end K08
end

section
set_option Elab.async false
set_option linter.all false
set_option maxRecDepth 100000
set_option maxHeartbeats 4000000
/-! M9: best of a class; what shows it. -/
namespace K08
open PySem FD
variable {a l k : Nat} {vs : List (List Int)} {c : List Nat}
theorem lc_mapg {α : Type} {j : Nat} {te : DE → Option DV} {env : DE} (g f : α → PyData) : ∀ {xs : List α}, (∀ x ∈ xs, te ((wipeD env [j]).set j (some (false, .dat (g x)))) = some (.dat (f x))) → lcGo [j] (gtN j) tYesF te env (xs.map g) = some (xs.map f)
  | [], _ => rfl
  | x :: xs, h => by
    rw [List.map_cons]
    unfold lcGo
    simp only [gtN, tYesF, Option.bind_some, if_true]
    rw [h x (List.mem_cons_self ..), lc_mapg g f fun e he => h e (List.mem_cons_of_mem _ he)]
    rfl
theorem eLc_mapg {α : Type} {j : Nat} {fi : DE → Option (List PyData)} {te : DE → Option DV} {env : DE} {xs : List α} (g f : α → PyData) (h : fi env = some (xs.map g)) (hl : xs.length ≤ 100000) (ht : ∀ x ∈ xs, te ((wipeD env [j]).set j (some (false, .dat (g x)))) = some (.dat (f x))) :
    eLc [j] fi (gtN j) tYesF te env = some (.dat (.list (xs.map f))) := by
  unfold eLc
  rw [h]
  show (if (xs.map g).length ≤ 100000 then (lcGo [j] (gtN j) tYesF te env (xs.map g)).map (fun rs => DV.dat (.list rs)) else none) = _
  rw [List.length_map, if_pos hl, lc_mapg g f ht]
  rfl
def wP (vs : List (List Int)) (a : Nat) (x : List Nat) : Int × PyData := (wN vs x, chP a x)
theorem best_of (D : Dom a l k) {xs : LL} (hne : xs ≠ []) (vs : List (List Int)) : ∃ m ∈ xs, dMax (.dat (.list (xs.map fun x => partD (wP vs a x)))) = some (.dat (partD (wP vs a m))) ∧ ∀ x ∈ xs, wN vs x ≤ wN vs m := by
  obtain ⟨p, hp, h1, h2⟩ := max_parts (ps := xs.map (wP vs a)) (by simpa using hne) (fun x hx y hy => by
    obtain ⟨x, _, rfl⟩ := List.mem_map.mp hx
    obtain ⟨y, _, rfl⟩ := List.mem_map.mp hy
    exact alike_ch _ _ _ _) (fun x hx => by
    obtain ⟨x, _, rfl⟩ := List.mem_map.mp hx
    show (chP a x).depth ≤ 20
    rw [depth_ch]; decide)
  obtain ⟨m, hm, rfl⟩ := List.mem_map.mp hp
  rw [List.map_map] at h1
  exact ⟨m, hm, h1, fun x hx => h2 _ (List.mem_map.mpr ⟨x, hx, rfl⟩)⟩
/-- m is the best of xs, the one named -/
structure Bst (vs : List (List Int)) (xs : LL) (m : List Nat) : Prop where
  mem : m ∈ xs
  ge : ∀ x ∈ xs, wN vs x ≤ wN vs m
theorem best_of_class (D : Dom a l k) (hc : c ∈ mapsN a l k) (V : VOk9 k (a * l + 1) vs) : ∃ m, Bst vs (classN a l k c) m ∧ F_best_of_class [chD a c, valsD vs] = some (.dat (partD (wP vs a m))) := by
  have C := cls_all D hc
  obtain ⟨m, h1, h2, h3⟩ := best_of D (List.ne_nil_of_mem C.me) vs
  refine ⟨m, ⟨h1, h3⟩, ?_⟩
  have f2 := len_le_of_subset C.nd C.sub
  have f3 := D.few
  unfold F_best_of_class g_best_of_class
  simp only [fnF, startD, sSeq, sNil, sRet, sIf, sSet, sExpr, sTup, sPar, sPar3, sFrz, sRetO, sFor, sNever, sClr, FD.e1, FD.e2, FD.e3, eVar, eRd, eC, eCall, aCons, aNil, eAnd, eOr, eNot, eIf, eTru, tNotF, tAndF, tOrF, eTupL, eLstL, lCons, lNil, lStar, eSl, pN, pS, iSeq, iKeys, iEnum, items, setAll, gtN, gtT, Option.bind_some, Option.map_some, Option.bind_none, Option.map_none, List.map_cons, List.map_nil, List.length_cons, List.length_nil, List.replicate, List.nil_append, List.cons_append, List.append_nil, List.getElem?_cons_zero, List.getElem?_cons_succ, List.set_cons_zero, List.set_cons_succ, Nat.reduceSub, Nat.reduceAdd, Nat.reduceLeDiff, wipeD, if_true, if_false, Bool.false_eq_true, dTru, dB, Bool.not_true, Bool.not_false]
  rw [eLc_mapg (xs := classN a l k c) (chP a) (fun x => partD (wP vs a x))]
  · simp only [fnF, startD, sSeq, sNil, sRet, sIf, sSet, sExpr, sTup, sPar, sPar3, sFrz, sRetO, sFor, sNever, sClr, FD.e1, FD.e2, FD.e3, eVar, eRd, eC, eCall, aCons, aNil, eAnd, eOr, eNot, eIf, eTru, tNotF, tAndF, tOrF, eTupL, eLstL, lCons, lNil, lStar, eSl, pN, pS, iSeq, iKeys, iEnum, items, setAll, gtN, gtT, Option.bind_some, Option.map_some, Option.bind_none, Option.map_none, List.map_cons, List.map_nil, List.length_cons, List.length_nil, List.replicate, List.nil_append, List.cons_append, List.append_nil, List.getElem?_cons_zero, List.getElem?_cons_succ, List.set_cons_zero, List.set_cons_succ, Nat.reduceSub, Nat.reduceAdd, Nat.reduceLeDiff, wipeD, if_true, if_false, Bool.false_eq_true, dTru, dB, Bool.not_true, Bool.not_false]
    rw [h2]
    rfl
  · simp only [fnF, startD, sSeq, sNil, sRet, sIf, sSet, sExpr, sTup, sPar, sPar3, sFrz, sRetO, sFor, sNever, sClr, FD.e1, FD.e2, FD.e3, eVar, eRd, eC, eCall, aCons, aNil, eAnd, eOr, eNot, eIf, eTru, tNotF, tAndF, tOrF, eTupL, eLstL, lCons, lNil, lStar, eSl, pN, pS, iSeq, iKeys, iEnum, items, setAll, gtN, gtT, Option.bind_some, Option.map_some, Option.bind_none, Option.map_none, List.map_cons, List.map_nil, List.length_cons, List.length_nil, List.replicate, List.nil_append, List.cons_append, List.append_nil, List.getElem?_cons_zero, List.getElem?_cons_succ, List.set_cons_zero, List.set_cons_succ, Nat.reduceSub, Nat.reduceAdd, Nat.reduceLeDiff, wipeD, if_true, if_false, Bool.false_eq_true, dTru, dB, Bool.not_true, Bool.not_false]
    rw [C.all]
    rfl
  · omega
  · intro x hx
    simp only [fnF, startD, sSeq, sNil, sRet, sIf, sSet, sExpr, sTup, sPar, sPar3, sFrz, sRetO, sFor, sNever, sClr, FD.e1, FD.e2, FD.e3, eVar, eRd, eC, eCall, aCons, aNil, eAnd, eOr, eNot, eIf, eTru, tNotF, tAndF, tOrF, eTupL, eLstL, lCons, lNil, lStar, eSl, pN, pS, iSeq, iKeys, iEnum, items, setAll, gtN, gtT, Option.bind_some, Option.map_some, Option.bind_none, Option.map_none, List.map_cons, List.map_nil, List.length_cons, List.length_nil, List.replicate, List.nil_append, List.cons_append, List.append_nil, List.getElem?_cons_zero, List.getElem?_cons_succ, List.set_cons_zero, List.set_cons_succ, Nat.reduceSub, Nat.reduceAdd, Nat.reduceLeDiff, wipeD, if_true, if_false, Bool.false_eq_true, dTru, dB, Bool.not_true, Bool.not_false]
    rw [show DV.dat (chP a x) = chD a x from rfl, wOf D (C.sub x hx) V]
    simp only [chD, fnF, startD, sSeq, sNil, sRet, sIf, sSet, sExpr, sTup, sPar, sPar3, sFrz, sRetO, sFor, sNever, sClr, FD.e1, FD.e2, FD.e3, eVar, eRd, eC, eCall, aCons, aNil, eAnd, eOr, eNot, eIf, eTru, tNotF, tAndF, tOrF, eTupL, eLstL, lCons, lNil, lStar, eSl, pN, pS, iSeq, iKeys, iEnum, items, setAll, gtN, gtT, Option.bind_some, Option.map_some, Option.bind_none, Option.map_none, List.map_cons, List.map_nil, List.length_cons, List.length_nil, List.replicate, List.nil_append, List.cons_append, List.append_nil, List.getElem?_cons_zero, List.getElem?_cons_succ, List.set_cons_zero, List.set_cons_succ, Nat.reduceSub, Nat.reduceAdd, Nat.reduceLeDiff, wipeD, if_true, if_false, Bool.false_eq_true, dTru, dB, Bool.not_true, Bool.not_false]
    rfl
theorem best_in_class (D : Dom a l k) (hc : c ∈ mapsN a l k) (V : VOk9 k (a * l + 1) vs) : ∃ m, Bst vs (classN a l k c) m ∧ F_best_of_class [chD a c, valsD vs] = some (.dat (partD (wP vs a m))) ∧ F_best_in_class [chD a c, valsD vs] = some (.dat (partD (wP vs a m))) := by
  obtain ⟨m, h1, h2⟩ := best_of_class D hc V
  refine ⟨m, h1, h2, ?_⟩
  unfold F_best_in_class g_best_in_class
  simp only [fnF, startD, sSeq, sNil, sRet, sIf, sSet, sExpr, sTup, sPar, sPar3, sFrz, sRetO, sFor, sNever, sClr, FD.e1, FD.e2, FD.e3, eVar, eRd, eC, eCall, aCons, aNil, eAnd, eOr, eNot, eIf, eTru, tNotF, tAndF, tOrF, eTupL, eLstL, lCons, lNil, lStar, eSl, pN, pS, iSeq, iKeys, iEnum, items, setAll, gtN, gtT, Option.bind_some, Option.map_some, Option.bind_none, Option.map_none, List.map_cons, List.map_nil, List.length_cons, List.length_nil, List.replicate, List.nil_append, List.cons_append, List.append_nil, List.getElem?_cons_zero, List.getElem?_cons_succ, List.set_cons_zero, List.set_cons_succ, Nat.reduceSub, Nat.reduceAdd, Nat.reduceLeDiff, wipeD, if_true, if_false, Bool.false_eq_true, dTru, dB, Bool.not_true, Bool.not_false, need_valued D hc V, h2]
/-! likeness of charts -/
theorem eqvAll_iD : ∀ x y : List Nat, PyData.eqvAll (x.map iD) (y.map iD) = decide (x = y)
  | [], [] => rfl
  | [], _ :: _ => rfl
  | _ :: _, [] => rfl
  | i :: x, j :: y => by
    rw [List.map_cons, List.map_cons, PyData.eqvAll, eqvAll_iD x y]
    have : PyData.eqv (iD i) (iD j) = decide (i = j) := by
      unfold iD
      rw [PyData.eqv]
      by_cases h : i = j
      · subst h; simp
      · rw [decide_eq_false h]; exact beq_false_of_ne fun e => h (Int.ofNat.inj e)
    rw [this]
    by_cases h : i = j <;> by_cases h2 : x = y <;> simp [h, h2]
theorem eqv_tu (x y : List Nat) : PyData.eqv (tuN x) (tuN y) = decide (x = y) := by
  unfold tuN; rw [PyData.eqv, eqvAll_iD]
theorem eqv_ch (a : Nat) (x y : List Nat) : PyData.eqv (chP a x) (chP a y) = decide (x = y) := by
  unfold chP
  rw [PyData.eqv, PyData.eqvAll, PyData.eqvAll, PyData.eqvAll, eqv_tu]
  have : PyData.eqv (iD a) (iD a) = true := by unfold iD; rw [PyData.eqv]; simp
  rw [this]; simp
theorem any_ch (a : Nat) (x : List Nat) : ∀ xs : LL, ((xs.map (chP a)).any fun y => PyData.eqv y (chP a x)) = decide (x ∈ xs)
  | [] => by simp
  | y :: xs => by
    rw [List.map_cons, List.any_cons, any_ch a x xs, eqv_ch]
    by_cases h : y = x
    · subst h; simp
    · have h' : ¬ x = y := fun e => h e.symm
      by_cases h2 : x ∈ xs <;> simp [h, h', h2]
theorem dIn_ls (n : Bool) (a : Nat) (x : List Nat) (xs : LL) : dIn n (chD a x) (lsD a xs) = some (dB (n ^^ decide (x ∈ xs))) := by
  have e : inOk (xs.map (chP a)) (chP a x) = true := by
    unfold inOk
    rw [plainAll_ch, plain_ch]
    have : min (PyData.depthAll (xs.map (chP a))) (chP a x).depth ≤ 40 := Nat.le_trans (Nat.min_le_right _ _) (by rw [depth_ch]; decide)
    rw [decide_eq_true this]; rfl
  show (if inOk (xs.map (chP a)) (chP a x) = true then some (dB (n ^^ (xs.map (chP a)).any fun y => PyData.eqv y (chP a x))) else none) = _
  rw [if_pos e, any_ch]
/-! what is shown -/
theorem isi_tup (ds : List PyData) : dIsi "tuple" (.dat (.tuple ds)) = some (dB true) := rfl
theorem isi_lst (ds : List PyData) : dIsi "tuple" (.dat (.list ds)) = some (dB false) := rfl
theorem isi_non : dIsi "tuple" (.dat .none) = some (dB false) := rfl
theorem isi_int (i : Int) : dIsi "tuple" (.dat (.int i)) = some (dB false) := rfl
theorem len2 (x y : PyData) : dLen (.dat (.tuple [x, y])) = some (.dat (.int 2)) := rfl
theorem ne22 : dNe (.dat (.int 2)) (.dat (.int 2)) = some (dB false) := rfl
theorem ix0 (x y : PyData) : dIx (.dat (.tuple [x, y])) (.dat (.int 0)) = some (.dat x) := rfl
theorem ix1 (x y : PyData) : dIx (.dat (.tuple [x, y])) (.dat (.int 1)) = some (.dat y) := rfl
theorem in_same (z b : Int) : F_is_in [.dat (.int z), .dat (.int b), .dat (.int b)] = some (dB (decide (z = b))) := by
  rw [is_in_int]
  congr 2
  by_cases h : z = b
  · subst h; simp
  · rw [decide_eq_false h]
    by_cases h1 : b ≤ z
    · rw [decide_eq_false (p := z ≤ b) (by omega)]; simp
    · rw [decide_eq_false h1]; rfl
theorem is_map_list (ds : List PyData) : F_is_map [.dat (.list ds)] = some (dB false) := rfl
/-- what a judge says of the listed values, with the best worth B, among the maps here -/
structure Shw (a l k : Nat) (vs : List (List Int)) (B : Int) (here : LL) (G : DV → Option DV) : Prop where
  map : ∀ z x, x ∈ mapsN a l k → G (.dat (partD (z, chP a x))) = some (dB (decide (z = B) && (decide (x ∈ here) && decide (wN vs x = B))))
  lst : ∀ ds, G (.dat (.list ds)) = some (dB false)
  non : G (.dat .none) = some (dB false)
  int : ∀ i, G (.dat (.int i)) = some (dB false)
  bad : ∀ d, F_is_map [.dat d] = some (dB false) → G (.dat (partD (B, d))) = some (dB false)
theorem shows_class (D : Dom a l k) (hc : c ∈ mapsN a l k) (V : VOk9 k (a * l + 1) vs) {m : List Nat} (hb : F_best_of_class [chD a c, valsD vs] = some (.dat (partD (wP vs a m)))) :
    Shw a l k vs (wN vs m) (classN a l k c) fun v => F_shows_best_in_class [chD a c, valsD vs, v] := by
  have C := cls_all D hc
  have hb0 : dIx (.dat (partD (wP vs a m))) (.dat (.int 0)) = some (.dat (.int (wN vs m))) := rfl
  refine ⟨fun z x hx => ?_, fun ds => ?_, ?_, fun i => ?_, fun d hd => ?_⟩
  · unfold F_shows_best_in_class g_shows_best_in_class
    simp only [fnF, startD, sSeq, sNil, sRet, sIf, sSet, sExpr, sTup, sPar, sPar3, sFrz, sRetO, sFor, sNever, sClr, FD.e1, FD.e2, FD.e3, eVar, eRd, eC, eCall, aCons, aNil, eAnd, eOr, eNot, eIf, eTru, tNotF, tAndF, tOrF, eTupL, eLstL, lCons, lNil, lStar, eSl, pN, pS, iSeq, iKeys, iEnum, items, setAll, gtN, gtT, Option.bind_some, Option.map_some, Option.bind_none, Option.map_none, List.map_cons, List.map_nil, List.length_cons, List.length_nil, List.replicate, List.nil_append, List.cons_append, List.append_nil, List.getElem?_cons_zero, List.getElem?_cons_succ, List.set_cons_zero, List.set_cons_succ, Nat.reduceSub, Nat.reduceAdd, Nat.reduceLeDiff, wipeD, if_true, if_false, Bool.false_eq_true, dTru, dB, Bool.not_true, Bool.not_false, need_valued D hc V, hb, hb0]
    simp only [partD, isi_tup, len2, ne22, ix0, ix1, in_same, fnF, startD, sSeq, sNil, sRet, sIf, sSet, sExpr, sTup, sPar, sPar3, sFrz, sRetO, sFor, sNever, sClr, FD.e1, FD.e2, FD.e3, eVar, eRd, eC, eCall, aCons, aNil, eAnd, eOr, eNot, eIf, eTru, tNotF, tAndF, tOrF, eTupL, eLstL, lCons, lNil, lStar, eSl, pN, pS, iSeq, iKeys, iEnum, items, setAll, gtN, gtT, Option.bind_some, Option.map_some, Option.bind_none, Option.map_none, List.map_cons, List.map_nil, List.length_cons, List.length_nil, List.replicate, List.nil_append, List.cons_append, List.append_nil, List.getElem?_cons_zero, List.getElem?_cons_succ, List.set_cons_zero, List.set_cons_succ, Nat.reduceSub, Nat.reduceAdd, Nat.reduceLeDiff, wipeD, if_true, if_false, Bool.false_eq_true, dTru, dB, Bool.not_true, Bool.not_false]
    by_cases hz : z = wN vs m
    · simp only [hz, decide_true, fnF, startD, sSeq, sNil, sRet, sIf, sSet, sExpr, sTup, sPar, sPar3, sFrz, sRetO, sFor, sNever, sClr, FD.e1, FD.e2, FD.e3, eVar, eRd, eC, eCall, aCons, aNil, eAnd, eOr, eNot, eIf, eTru, tNotF, tAndF, tOrF, eTupL, eLstL, lCons, lNil, lStar, eSl, pN, pS, iSeq, iKeys, iEnum, items, setAll, gtN, gtT, Option.bind_some, Option.map_some, Option.bind_none, Option.map_none, List.map_cons, List.map_nil, List.length_cons, List.length_nil, List.replicate, List.nil_append, List.cons_append, List.append_nil, List.getElem?_cons_zero, List.getElem?_cons_succ, List.set_cons_zero, List.set_cons_succ, Nat.reduceSub, Nat.reduceAdd, Nat.reduceLeDiff, wipeD, if_true, if_false, Bool.false_eq_true, dTru, dB, Bool.not_true, Bool.not_false, ix1]
      rw [show DV.dat (chP a x) = chD a x from rfl, D.isMap x hx, wOf D hx V, C.all]
      simp only [dIn_ls, fnF, startD, sSeq, sNil, sRet, sIf, sSet, sExpr, sTup, sPar, sPar3, sFrz, sRetO, sFor, sNever, sClr, FD.e1, FD.e2, FD.e3, eVar, eRd, eC, eCall, aCons, aNil, eAnd, eOr, eNot, eIf, eTru, tNotF, tAndF, tOrF, eTupL, eLstL, lCons, lNil, lStar, eSl, pN, pS, iSeq, iKeys, iEnum, items, setAll, gtN, gtT, Option.bind_some, Option.map_some, Option.bind_none, Option.map_none, List.map_cons, List.map_nil, List.length_cons, List.length_nil, List.replicate, List.nil_append, List.cons_append, List.append_nil, List.getElem?_cons_zero, List.getElem?_cons_succ, List.set_cons_zero, List.set_cons_succ, Nat.reduceSub, Nat.reduceAdd, Nat.reduceLeDiff, wipeD, if_true, if_false, Bool.false_eq_true, dTru, dB, Bool.not_true, Bool.not_false, Bool.true_and, Bool.false_xor]
      by_cases h1 : x ∈ classN a l k c
      · simp only [h1, decide_true, fnF, startD, sSeq, sNil, sRet, sIf, sSet, sExpr, sTup, sPar, sPar3, sFrz, sRetO, sFor, sNever, sClr, FD.e1, FD.e2, FD.e3, eVar, eRd, eC, eCall, aCons, aNil, eAnd, eOr, eNot, eIf, eTru, tNotF, tAndF, tOrF, eTupL, eLstL, lCons, lNil, lStar, eSl, pN, pS, iSeq, iKeys, iEnum, items, setAll, gtN, gtT, Option.bind_some, Option.map_some, Option.bind_none, Option.map_none, List.map_cons, List.map_nil, List.length_cons, List.length_nil, List.replicate, List.nil_append, List.cons_append, List.append_nil, List.getElem?_cons_zero, List.getElem?_cons_succ, List.set_cons_zero, List.set_cons_succ, Nat.reduceSub, Nat.reduceAdd, Nat.reduceLeDiff, wipeD, if_true, if_false, Bool.false_eq_true, dTru, dB, Bool.not_true, Bool.not_false, Bool.true_and]; rfl
      · simp only [h1, decide_false, fnF, startD, sSeq, sNil, sRet, sIf, sSet, sExpr, sTup, sPar, sPar3, sFrz, sRetO, sFor, sNever, sClr, FD.e1, FD.e2, FD.e3, eVar, eRd, eC, eCall, aCons, aNil, eAnd, eOr, eNot, eIf, eTru, tNotF, tAndF, tOrF, eTupL, eLstL, lCons, lNil, lStar, eSl, pN, pS, iSeq, iKeys, iEnum, items, setAll, gtN, gtT, Option.bind_some, Option.map_some, Option.bind_none, Option.map_none, List.map_cons, List.map_nil, List.length_cons, List.length_nil, List.replicate, List.nil_append, List.cons_append, List.append_nil, List.getElem?_cons_zero, List.getElem?_cons_succ, List.set_cons_zero, List.set_cons_succ, Nat.reduceSub, Nat.reduceAdd, Nat.reduceLeDiff, wipeD, if_true, if_false, Bool.false_eq_true, dTru, dB, Bool.not_true, Bool.not_false, Bool.false_and]
    · simp only [hz, decide_false, Bool.not_false, fnF, startD, sSeq, sNil, sRet, sIf, sSet, sExpr, sTup, sPar, sPar3, sFrz, sRetO, sFor, sNever, sClr, FD.e1, FD.e2, FD.e3, eVar, eRd, eC, eCall, aCons, aNil, eAnd, eOr, eNot, eIf, eTru, tNotF, tAndF, tOrF, eTupL, eLstL, lCons, lNil, lStar, eSl, pN, pS, iSeq, iKeys, iEnum, items, setAll, gtN, gtT, Option.bind_some, Option.map_some, Option.bind_none, Option.map_none, List.map_cons, List.map_nil, List.length_cons, List.length_nil, List.replicate, List.nil_append, List.cons_append, List.append_nil, List.getElem?_cons_zero, List.getElem?_cons_succ, List.set_cons_zero, List.set_cons_succ, Nat.reduceSub, Nat.reduceAdd, Nat.reduceLeDiff, wipeD, if_true, if_false, Bool.false_eq_true, dTru, dB, Bool.not_true, Bool.not_false, Bool.false_and]
  · unfold F_shows_best_in_class g_shows_best_in_class
    simp only [fnF, startD, sSeq, sNil, sRet, sIf, sSet, sExpr, sTup, sPar, sPar3, sFrz, sRetO, sFor, sNever, sClr, FD.e1, FD.e2, FD.e3, eVar, eRd, eC, eCall, aCons, aNil, eAnd, eOr, eNot, eIf, eTru, tNotF, tAndF, tOrF, eTupL, eLstL, lCons, lNil, lStar, eSl, pN, pS, iSeq, iKeys, iEnum, items, setAll, gtN, gtT, Option.bind_some, Option.map_some, Option.bind_none, Option.map_none, List.map_cons, List.map_nil, List.length_cons, List.length_nil, List.replicate, List.nil_append, List.cons_append, List.append_nil, List.getElem?_cons_zero, List.getElem?_cons_succ, List.set_cons_zero, List.set_cons_succ, Nat.reduceSub, Nat.reduceAdd, Nat.reduceLeDiff, wipeD, if_true, if_false, Bool.false_eq_true, dTru, dB, Bool.not_true, Bool.not_false, need_valued D hc V, hb, hb0, isi_lst]
  · unfold F_shows_best_in_class g_shows_best_in_class
    simp only [fnF, startD, sSeq, sNil, sRet, sIf, sSet, sExpr, sTup, sPar, sPar3, sFrz, sRetO, sFor, sNever, sClr, FD.e1, FD.e2, FD.e3, eVar, eRd, eC, eCall, aCons, aNil, eAnd, eOr, eNot, eIf, eTru, tNotF, tAndF, tOrF, eTupL, eLstL, lCons, lNil, lStar, eSl, pN, pS, iSeq, iKeys, iEnum, items, setAll, gtN, gtT, Option.bind_some, Option.map_some, Option.bind_none, Option.map_none, List.map_cons, List.map_nil, List.length_cons, List.length_nil, List.replicate, List.nil_append, List.cons_append, List.append_nil, List.getElem?_cons_zero, List.getElem?_cons_succ, List.set_cons_zero, List.set_cons_succ, Nat.reduceSub, Nat.reduceAdd, Nat.reduceLeDiff, wipeD, if_true, if_false, Bool.false_eq_true, dTru, dB, Bool.not_true, Bool.not_false, need_valued D hc V, hb, hb0, isi_non]
  · unfold F_shows_best_in_class g_shows_best_in_class
    simp only [fnF, startD, sSeq, sNil, sRet, sIf, sSet, sExpr, sTup, sPar, sPar3, sFrz, sRetO, sFor, sNever, sClr, FD.e1, FD.e2, FD.e3, eVar, eRd, eC, eCall, aCons, aNil, eAnd, eOr, eNot, eIf, eTru, tNotF, tAndF, tOrF, eTupL, eLstL, lCons, lNil, lStar, eSl, pN, pS, iSeq, iKeys, iEnum, items, setAll, gtN, gtT, Option.bind_some, Option.map_some, Option.bind_none, Option.map_none, List.map_cons, List.map_nil, List.length_cons, List.length_nil, List.replicate, List.nil_append, List.cons_append, List.append_nil, List.getElem?_cons_zero, List.getElem?_cons_succ, List.set_cons_zero, List.set_cons_succ, Nat.reduceSub, Nat.reduceAdd, Nat.reduceLeDiff, wipeD, if_true, if_false, Bool.false_eq_true, dTru, dB, Bool.not_true, Bool.not_false, need_valued D hc V, hb, hb0, isi_int]
  · unfold F_shows_best_in_class g_shows_best_in_class
    simp only [fnF, startD, sSeq, sNil, sRet, sIf, sSet, sExpr, sTup, sPar, sPar3, sFrz, sRetO, sFor, sNever, sClr, FD.e1, FD.e2, FD.e3, eVar, eRd, eC, eCall, aCons, aNil, eAnd, eOr, eNot, eIf, eTru, tNotF, tAndF, tOrF, eTupL, eLstL, lCons, lNil, lStar, eSl, pN, pS, iSeq, iKeys, iEnum, items, setAll, gtN, gtT, Option.bind_some, Option.map_some, Option.bind_none, Option.map_none, List.map_cons, List.map_nil, List.length_cons, List.length_nil, List.replicate, List.nil_append, List.cons_append, List.append_nil, List.getElem?_cons_zero, List.getElem?_cons_succ, List.set_cons_zero, List.set_cons_succ, Nat.reduceSub, Nat.reduceAdd, Nat.reduceLeDiff, wipeD, if_true, if_false, Bool.false_eq_true, dTru, dB, Bool.not_true, Bool.not_false, need_valued D hc V, hb, hb0]
    simp only [partD, isi_tup, len2, ne22, ix0, ix1, in_same, decide_true, hd, fnF, startD, sSeq, sNil, sRet, sIf, sSet, sExpr, sTup, sPar, sPar3, sFrz, sRetO, sFor, sNever, sClr, FD.e1, FD.e2, FD.e3, eVar, eRd, eC, eCall, aCons, aNil, eAnd, eOr, eNot, eIf, eTru, tNotF, tAndF, tOrF, eTupL, eLstL, lCons, lNil, lStar, eSl, pN, pS, iSeq, iKeys, iEnum, items, setAll, gtN, gtT, Option.bind_some, Option.map_some, Option.bind_none, Option.map_none, List.map_cons, List.map_nil, List.length_cons, List.length_nil, List.replicate, List.nil_append, List.cons_append, List.append_nil, List.getElem?_cons_zero, List.getElem?_cons_succ, List.set_cons_zero, List.set_cons_succ, Nat.reduceSub, Nat.reduceAdd, Nat.reduceLeDiff, wipeD, if_true, if_false, Bool.false_eq_true, dTru, dB, Bool.not_true, Bool.not_false]
end K08
end

section
set_option Elab.async false
set_option linter.all false
set_option maxRecDepth 100000
set_option maxHeartbeats 4000000
/-! M10: tables of the best parts, with the candidates behind them. -/
namespace K08
open PySem FD
def fW (vs : List (List Int)) : Nat → List Nat → Int
  | _, [] => 0
  | off, x :: c => atV vs x off + fW vs (off + 1) c
theorem fW_app (vs : List (List Int)) : ∀ (off : Nat) (c d : List Nat), fW vs off (c ++ d) = fW vs off c + fW vs (off + c.length) d
  | off, [], d => by simp [fW]
  | off, x :: c, d => by
    rw [List.cons_append, fW, fW, fW_app vs (off + 1) c d, List.length_cons, Nat.add_assoc off 1, Nat.add_comm 1]
    omega
theorem fW_gen (vs : List (List Int)) : ∀ (off : Nat) (c : List Nat), fW vs off c = ((List.range c.length).map fun i => atV vs (c.getD i 0) (off + i)).sum
  | off, [] => rfl
  | off, x :: c => by
    rw [fW, fW_gen vs (off + 1) c, List.length_cons, List.range_succ_eq_map, List.map_cons, List.sum_cons, List.map_map]
    have e : ∀ i : Nat, off + 1 + i = off + (i + 1) := fun i => by omega
    simp only [Function.comp_def, List.getD_cons_succ, List.getD_cons_zero, Nat.add_zero, e]
theorem wN_fW (vs : List (List Int)) (c : List Nat) : wN vs c = fW vs 0 c := by
  rw [fW_gen]
  unfold wN
  simp only [Nat.zero_add]
/-! folds that may fail -/
def foldO {σ α : Type} (f : σ → α → Option σ) : σ → List α → Option σ
  | s, [] => some s
  | s, x :: xs => (f s x).bind fun s' => foldO f s' xs
theorem forGo_relO {α σ : Type} {gt : PyData → DE → Option DE} {body : DE → Option Out} {f : α → PyData} {step : σ → α → Option σ} {R : DE → σ → Prop} :
    ∀ {xs : List α}, (∀ x ∈ xs, ∀ env s s', R env s → step s x = some s' → ∃ e1 env', gt (f x) env = some e1 ∧ body e1 = some (.nx env') ∧ R env' s') → ∀ {env : DE} {s s' : σ}, R env s → foldO step s xs = some s' → ∃ env', forGo gt body (xs.map f) env = some (.nx env') ∧ R env' s'
  | [], _, env, s, s', r, e => by cases e; exact ⟨env, rfl, r⟩
  | x :: xs, h, env, s, s', r, e => by
    unfold foldO at e
    obtain ⟨s1, es, e⟩ := Option.bind_eq_some_iff.mp e
    obtain ⟨e1, env1, h1, h2, r1⟩ := h x (List.mem_cons_self ..) env s s1 r es
    obtain ⟨env2, h3, r2⟩ := forGo_relO (fun y hy => h y (List.mem_cons_of_mem _ hy)) r1 e
    refine ⟨env2, ?_, r2⟩
    rw [List.map_cons]
    unfold forGo
    rw [h1, Option.bind_some, h2, Option.bind_some]
    exact h3
/-! tables -/
section
variable {β : Type}
def aFind (A : List (NestedKey × β)) (k : NestedKey) : Option β := (A.find? fun p => decide (p.1 = k)).map (·.2)
def aPut (A : List (NestedKey × β)) (k : NestedKey) (d : β) : List (NestedKey × β) := if (aFind A k).isSome = true then A.map fun p => if p.1 = k then (p.1, d) else p else A ++ [(k, d)]
theorem aFind_cons (p : NestedKey × β) (A : List (NestedKey × β)) (k : NestedKey) : aFind (p :: A) k = if p.1 = k then some p.2 else aFind A k := by
  unfold aFind
  by_cases h : p.1 = k
  · rw [List.find?_cons_of_pos (by exact decide_eq_true h), if_pos h]; rfl
  · rw [List.find?_cons_of_neg (by simpa using h), if_neg h]
theorem aFind_app (k k' : NestedKey) (d : β) : ∀ A : List (NestedKey × β), aFind A k = none → aFind (A ++ [(k, d)]) k' = if k = k' then some d else aFind A k'
  | [], _ => by
    rw [List.nil_append, aFind_cons]
  | p :: A, h => by
    rw [aFind_cons] at h
    split at h
    · cases h
    · rename_i h1
      rw [List.cons_append, aFind_cons, aFind_cons, aFind_app k k' d A h]
      by_cases h2 : p.1 = k'
      · rw [if_pos h2, if_neg (fun e => h1 (h2.trans e.symm)), if_pos h2]
      · rw [if_neg h2, if_neg h2]
theorem aFind_map (k k' : NestedKey) (d : β) : ∀ A : List (NestedKey × β), aFind (A.map fun p => if p.1 = k then (p.1, d) else p) k' = if k = k' ∧ (aFind A k).isSome = true then some d else aFind A k'
  | [] => by simp [aFind]
  | p :: A => by
    rw [List.map_cons, aFind_cons, aFind_cons, aFind_cons, aFind_map k k' d A]
    by_cases h1 : p.1 = k
    · rw [if_pos h1, if_pos h1]
      show (if p.1 = k' then some d else _) = _
      by_cases h2 : p.1 = k'
      · rw [if_pos h2, if_pos ⟨h1.symm.trans h2, rfl⟩]
      · have h3 : k ≠ k' := fun e => h2 (h1.trans e)
        rw [if_neg h2, if_neg (fun z => h3 z.1), if_neg (fun z => h3 z.1), if_neg h2]
    · rw [if_neg h1, if_neg h1]
      by_cases h2 : p.1 = k'
      · have h3 : k ≠ k' := fun e => h1 (h2.trans e.symm)
        rw [if_pos h2, if_neg (fun z => h3 z.1), if_pos h2]
      · rw [if_neg h2, if_neg h2]
theorem aFind_put (A : List (NestedKey × β)) (k k' : NestedKey) (d : β) : aFind (aPut A k d) k' = if k = k' then some d else aFind A k' := by
  unfold aPut
  split
  · rename_i h
    rw [aFind_map]
    by_cases h1 : k = k'
    · rw [if_pos ⟨h1, h⟩, if_pos h1]
    · rw [if_neg (fun z => h1 z.1), if_neg h1]
  · rename_i h
    exact aFind_app k k' d A (by simpa using h)
theorem aPut_keys (A : List (NestedKey × β)) (k : NestedKey) (d : β) : (aPut A k d).map (·.1) = if (aFind A k).isSome = true then A.map (·.1) else A.map (·.1) ++ [k] := by
  unfold aPut
  split
  · rw [List.map_map]
    refine List.map_congr_left fun p _ => ?_
    show (if p.1 = k then (p.1, d) else p).1 = p.1
    split <;> rfl
  · rw [List.map_append]; rfl
end
abbrev AD := List (NestedKey × LL)
/-- the candidates of a key, and more of them -/
def aAdd (A : AD) (k : NestedKey) (C : LL) : AD := aPut A k (((aFind A k).getD []) ++ C)
/-- d is the best of the candidates, each of n cells -/
def Bs (f : List Nat → Int) (n : Nat) (d : PyData) (C : LL) : Prop := (∀ c ∈ C, c.length = n) ∧ ∃ c ∈ C, d = partD (f c, tuN c) ∧ ∀ c' ∈ C, f c' ≤ f c
structure RD (f : List Nat → Int) (n : Nat) (kvs : List (NestedKey × PyData)) (A : AD) : Prop where
  keys : kvs.map (·.1) = A.map (·.1)
  at' : ∀ key, (dFind kvs key = none ∧ aFind A key = none) ∨ ∃ d C, dFind kvs key = some d ∧ aFind A key = some C ∧ Bs f n d C
variable {f : List Nat → Int} {n : Nat}
theorem RD.nil : RD f n [] [] := ⟨rfl, fun _ => .inl ⟨rfl, rfl⟩⟩
theorem RD.find {kvs : List (NestedKey × PyData)} {A : AD} (r : RD f n kvs A) {key : NestedKey} {C : LL} (h : aFind A key = some C) : ∃ d, dFind kvs key = some d ∧ Bs f n d C := by
  rcases r.at' key with ⟨_, h2⟩ | ⟨d, C', h1, h2, h3⟩
  · rw [h] at h2; cases h2
  · rw [h] at h2; cases h2; exact ⟨d, h1, h3⟩
theorem RD.put {kvs : List (NestedKey × PyData)} {A : AD} (r : RD f n kvs A) {key : NestedKey} {d : PyData} {C : LL} (b : Bs f n d (((aFind A key).getD []) ++ C)) : RD f n (dPut kvs key d) (aAdd A key C) := by
  have e : dPut kvs key d = aPut kvs key d := rfl
  have hs : (aFind kvs key).isSome = (aFind A key).isSome := by
    rcases r.at' key with ⟨h1, h2⟩ | ⟨d', C', h1, h2, _⟩
    · rw [show aFind kvs key = dFind kvs key from rfl, h1, h2]; rfl
    · rw [show aFind kvs key = dFind kvs key from rfl, h1, h2]; rfl
  refine ⟨?_, fun key' => ?_⟩
  · unfold aAdd
    rw [e, aPut_keys, aPut_keys, hs, r.keys]
  · unfold aAdd
    rw [e, show dFind (aPut kvs key d) key' = aFind (aPut kvs key d) key' from rfl, aFind_put, aFind_put]
    by_cases h : key = key'
    · rw [if_pos h, if_pos h]; exact .inr ⟨d, _, rfl, rfl, b⟩
    · rw [if_neg h, if_neg h]; exact r.at' key'
/-- the table as it was holds also for more candidates that are no better -/
theorem RD.skip {kvs : List (NestedKey × PyData)} {A : AD} (r : RD f n kvs A) {key : NestedKey} {d : PyData} {C0 C : LL} (h0 : aFind A key = some C0) (h1 : dFind kvs key = some d) (b : Bs f n d (C0 ++ C)) : RD f n kvs (aAdd A key C) := by
  refine ⟨?_, fun key' => ?_⟩
  · unfold aAdd
    rw [aPut_keys, h0, r.keys]; rfl
  · unfold aAdd
    rw [aFind_put, h0]
    by_cases h : key = key'
    · subst h; rw [if_pos rfl]; exact .inr ⟨d, _, h1, rfl, b⟩
    · rw [if_neg h]; exact r.at' key'
theorem alike_part (p q : Int × List Nat) : PySem.W.alike (tuN p.2) (tuN q.2) = true := alike_tu _ _
def pT (f : List Nat → Int) (c : List Nat) : PyData := partD (f c, tuN c)
theorem depth_pT (c : List Nat) : (pT f c).depth = 2 := by
  unfold pT partD
  rw [PyData.depth, PyData.depthAll, PyData.depthAll, PyData.depthAll, depth_tu]; rfl
theorem gt_pT (c d : List Nat) : ∃ b, dGt (.dat (pT f c)) (.dat (pT f d)) = some (dB b) ∧ (b = true → f d ≤ f c) ∧ (b = false → f c ≤ f d) := by
  have l := part_lt (p := (f d, tuN d)) (q := (f c, tuN c)) (alike_tu _ _)
  refine ⟨PySem.W.dataLt (pT f d) (pT f c), ?_, l.1, l.2⟩
  have e : ordOk (pT f c) (pT f d) = true := by
    unfold ordOk
    rw [depth_pT, depth_pT]
    have : PySem.W.alike (pT f c) (pT f d) = true := by
      unfold pT partD
      rw [PySem.W.alike, PySem.W.alikeAll, PySem.W.alikeAll, PySem.W.alikeAll, alike_tu, alike_int]; rfl
    rw [this]; rfl
  show (if ordOk (pT f c) (pT f d) = true then some (dB (PySem.W.dataLt (pT f d) (pT f c))) else none) = _
  rw [if_pos e]
theorem max2_pT (c d : List Nat) : ∃ m, (m = c ∨ m = d) ∧ dMax2 (.dat (pT f c)) (.dat (pT f d)) = some (.dat (pT f m)) ∧ f c ≤ f m ∧ f d ≤ f m := by
  have ok : maxOk [pT f c, pT f d] = true := parts_ok (ps := [(f c, tuN c), (f d, tuN d)]) (fun x hx y hy => by
    simp only [List.mem_cons, List.not_mem_nil, or_false] at hx hy
    rcases hx with rfl | rfl <;> rcases hy with rfl | rfl <;> exact alike_tu _ _) (fun x hx => by
    simp only [List.mem_cons, List.not_mem_nil, or_false] at hx
    rcases hx with rfl | rfl
    · show (tuN c).depth ≤ 20; rw [depth_tu]; decide
    · show (tuN d).depth ≤ 20; rw [depth_tu]; decide)
  have l := part_lt (p := (f c, tuN c)) (q := (f d, tuN d)) (alike_tu _ _)
  have e : dMax2 (.dat (pT f c)) (.dat (pT f d)) = some (.dat (if PySem.W.dataLt (pT f c) (pT f d) then pT f d else pT f c)) := by
    show (if maxOk [pT f c, pT f d] = true then some (DV.dat (PySem.W.maxD (pT f c) [pT f d])) else none) = _
    rw [if_pos ok]
    rfl
  rw [e]
  cases h : PySem.W.dataLt (pT f c) (pT f d) with
  | true => exact ⟨d, .inr rfl, rfl, l.1 h, Int.le_refl _⟩
  | false => exact ⟨c, .inl rfl, rfl, Int.le_refl _, l.2 h⟩
theorem Bs.app {C0 C : LL} {c0 c : List Nat} (h0 : ∀ x ∈ C0, x.length = n) (h1 : ∀ x ∈ C, x.length = n) (g0 : ∀ x ∈ C0, f x ≤ f c0) (g1 : ∀ x ∈ C, f x ≤ f c) {m : List Nat} (hm : m ∈ C0 ++ C) (l0 : f c0 ≤ f m) (l1 : f c ≤ f m) : Bs f n (pT f m) (C0 ++ C) := by
  refine ⟨fun x hx => ?_, m, hm, rfl, fun x hx => ?_⟩
  · rcases List.mem_append.mp hx with h | h
    · exact h0 x h
    · exact h1 x h
  · rcases List.mem_append.mp hx with h | h
    · exact Int.le_trans (g0 x h) l0
    · exact Int.le_trans (g1 x h) l1
end K08
end

section
set_option Elab.async false
set_option linter.all false
set_option maxRecDepth 100000
set_option maxHeartbeats 4000000
/-! M11: the best of an arm, with the candidates behind it. -/
namespace K08
open PySem FD
def aTst (land last hub used : PyData) : Option Bool := tOrF (eTru fun _ => dEq (.dat land) (.dat last)) (tAndF (eTru fun _ => dNe (.dat land) (.dat hub)) (eTru fun _ => dIn true (.dat land) (.dat used))) []
def aThr (land last used : PyData) : Option DV := eIf (eTru fun _ => dEq (.dat land) (.dat last)) (fun _ => some (.dat used)) (e1 dTuple (e1 dSorted (eLstL (lStar (fun _ => some (.dat used)) (lCons (fun _ => some (.dat land)) lNil))))) []
def aLand (hub last used : PyData) (C : LL) (more : AD) (land : Nat) : Option AD :=
  (aTst (iD land) last hub used).bind fun b => if b = true then (aThr (iD land) last used).bind fun t => match t with
    | .dat t => (keyT (.dat (.tuple [iD land, t]))).bind fun key => if more.length ≤ 100000 then some (aAdd more key (C.map fun c => c ++ [land])) else none
    | _ => none
  else some more
variable {a l k : Nat} {vs : List (List Int)}
theorem RD.len {f : List Nat → Int} {n : Nat} {kvs : List (NestedKey × PyData)} {A : AD} (r : RD f n kvs A) : kvs.length = A.length := by
  have := congrArg List.length r.keys
  rwa [List.length_map, List.length_map] at this
def gLand : DE → Option Out := (sClr [12, 15, 16] (sSeq (sIf (tOrF (eTru (e2 dEq (eVar 12) (eVar 10))) (tAndF (eTru (e2 dNe (eVar 12) (eVar 3))) (eTru (e2 (dIn true) (eVar 12) (eVar 11))))) (sSeq (sSet false 15 (eIf (eTru (e2 dEq (eVar 12) (eVar 10))) (eVar 11) (e1 dTuple (e1 dSorted (eLstL (lStar (eVar 11) (lCons (eVar 12) lNil))))))) (sSeq (sSet false 16 (eTupL (lCons (e2 dAdd (eVar 13) (e2 dIx (e2 dIx (eVar 2) (eVar 12)) (e2 dAdd (eVar 5) (eVar 7)))) (lCons (eTupL (lStar (eVar 14) (lCons (eVar 12) lNil))) lNil)))) (sSeq (sIf (tOrF (eTru (e2 (dIn true) (eTupL (lCons (eVar 12) (lCons (eVar 15) lNil))) (eRd 9))) (eTru (e2 dGt (eVar 16) (e2 dGet (eRd 9) (eTupL (lCons (eVar 12) (lCons (eVar 15) lNil))))))) (sSeq (sPut 9 (eVar 16) (eTupL (lCons (eVar 12) (lCons (eVar 15) lNil)))) sNil) sNil) sNil))) sNil) sNil))
def eLand (x0 x1 x4 x6 x8 : Option (Bool × DV)) (vs : List (List Int)) (hub last used : PyData) (off s : Nat) (f : List Nat → Int) (c : List Nat) (kvs : List (NestedKey × PyData)) (x12 : Option (Bool × DV)) : DE :=
  [x0, x1, some (false, valsD vs), some (false, .dat hub), x4, some (false, .dat (iD off)), x6, some (false, .dat (iD s)), x8, some (true, .dct kvs), some (false, .dat last), some (false, .dat used), x12, some (false, .dat (.int (f c))), some (false, .dat (tuN c)), none, none]
theorem add_iD (i j : Nat) : dAdd (.dat (iD i)) (.dat (iD j)) = some (.dat (.int ((i + j : Nat) : Int))) := rfl
theorem add_int (i j : Int) : dAdd (.dat (.int i)) (.dat (.int j)) = some (.dat (.int (i + j))) := rfl
theorem ifLen {x : Option DV} : (if (2 : Nat) ≤ 100000 then x else none) = x := if_pos (by decide)
theorem land_ok (V : VOk9 k n vs) {x0 x1 x4 x6 x8 : Option (Bool × DV)} {hub last used : PyData} {off s : Nat} {c : List Nat} {C : LL} (hs : off + s < n) (hs2 : s ≤ 1000) (hC : ∀ x ∈ C, x.length = s) (hc : c ∈ C) (hb : ∀ x ∈ C, fW vs off x ≤ fW vs off c)
    {land : Nat} (hl : land < k) {env : DE} {A A' : AD} (r : ∃ kvs, env = eLand x0 x1 x4 x6 x8 vs hub last used off s (fW vs off) c kvs none ∧ RD (fW vs off) (s + 1) kvs A) (e : aLand hub last used C A land = some A') :
    ∃ e1 env', gtN 12 (iD land) env = some e1 ∧ gLand e1 = some (.nx env') ∧ ∃ kvs, env' = eLand x0 x1 x4 x6 x8 vs hub last used off s (fW vs off) c kvs none ∧ RD (fW vs off) (s + 1) kvs A' := by
  obtain ⟨kvs, rfl, R⟩ := r
  unfold aLand at e
  obtain ⟨b, eb, e⟩ := Option.bind_eq_some_iff.mp e
  unfold aTst at eb
  simp only [fnF, startD, sSeq, sNil, sRet, sIf, sSet, sExpr, sTup, sPar, sPar3, sFrz, sRetO, sFor, sNever, sClr, FD.e1, FD.e2, FD.e3, eVar, eRd, eC, eCall, aCons, aNil, eAnd, eOr, eNot, eIf, eTru, tNotF, tAndF, tOrF, eTupL, eLstL, lCons, lNil, lStar, eSl, pN, pS, iSeq, iKeys, iEnum, items, setAll, gtN, gtT, Option.bind_some, Option.map_some, Option.bind_none, Option.map_none, List.map_cons, List.map_nil, List.length_cons, List.length_nil, List.replicate, List.nil_append, List.cons_append, List.append_nil, List.getElem?_cons_zero, List.getElem?_cons_succ, List.set_cons_zero, List.set_cons_succ, Nat.reduceSub, Nat.reduceAdd, Nat.reduceLeDiff, wipeD, if_true, if_false, Bool.false_eq_true, dTru, dB, Bool.not_true, Bool.not_false] at eb
  have hcl := hC c hc
  have hval := dIx_val V hl hs
  cases b with
  | false =>
    rw [if_neg Bool.false_ne_true] at e
    cases e
    refine ⟨_, _, rfl, ?_, kvs, rfl, R⟩
    unfold gLand eLand
    simp only [fnF, startD, sSeq, sNil, sRet, sIf, sSet, sExpr, sTup, sPar, sPar3, sFrz, sRetO, sFor, sNever, sClr, FD.e1, FD.e2, FD.e3, eVar, eRd, eC, eCall, aCons, aNil, eAnd, eOr, eNot, eIf, eTru, tNotF, tAndF, tOrF, eTupL, eLstL, lCons, lNil, lStar, eSl, pN, pS, iSeq, iKeys, iEnum, items, setAll, gtN, gtT, Option.bind_some, Option.map_some, Option.bind_none, Option.map_none, List.map_cons, List.map_nil, List.length_cons, List.length_nil, List.replicate, List.nil_append, List.cons_append, List.append_nil, List.getElem?_cons_zero, List.getElem?_cons_succ, List.set_cons_zero, List.set_cons_succ, Nat.reduceSub, Nat.reduceAdd, Nat.reduceLeDiff, wipeD, if_true, if_false, Bool.false_eq_true, dTru, dB, Bool.not_true, Bool.not_false]
    rw [eb]
    simp only [fnF, startD, sSeq, sNil, sRet, sIf, sSet, sExpr, sTup, sPar, sPar3, sFrz, sRetO, sFor, sNever, sClr, FD.e1, FD.e2, FD.e3, eVar, eRd, eC, eCall, aCons, aNil, eAnd, eOr, eNot, eIf, eTru, tNotF, tAndF, tOrF, eTupL, eLstL, lCons, lNil, lStar, eSl, pN, pS, iSeq, iKeys, iEnum, items, setAll, gtN, gtT, Option.bind_some, Option.map_some, Option.bind_none, Option.map_none, List.map_cons, List.map_nil, List.length_cons, List.length_nil, List.replicate, List.nil_append, List.cons_append, List.append_nil, List.getElem?_cons_zero, List.getElem?_cons_succ, List.set_cons_zero, List.set_cons_succ, Nat.reduceSub, Nat.reduceAdd, Nat.reduceLeDiff, wipeD, if_true, if_false, Bool.false_eq_true, dTru, dB, Bool.not_true, Bool.not_false]
  | true =>
    rw [if_pos rfl] at e
    obtain ⟨t, et, e⟩ := Option.bind_eq_some_iff.mp e
    split at e
    · rename_i t
      obtain ⟨key, ek, e⟩ := Option.bind_eq_some_iff.mp e
      split at e
      · rename_i hlen
        cases e
        unfold aThr at et
        simp only [fnF, startD, sSeq, sNil, sRet, sIf, sSet, sExpr, sTup, sPar, sPar3, sFrz, sRetO, sFor, sNever, sClr, FD.e1, FD.e2, FD.e3, eVar, eRd, eC, eCall, aCons, aNil, eAnd, eOr, eNot, eIf, eTru, tNotF, tAndF, tOrF, eTupL, eLstL, lCons, lNil, lStar, eSl, pN, pS, iSeq, iKeys, iEnum, items, setAll, gtN, gtT, Option.bind_some, Option.map_some, Option.bind_none, Option.map_none, List.map_cons, List.map_nil, List.length_cons, List.length_nil, List.replicate, List.nil_append, List.cons_append, List.append_nil, List.getElem?_cons_zero, List.getElem?_cons_succ, List.set_cons_zero, List.set_cons_succ, Nat.reduceSub, Nat.reduceAdd, Nat.reduceLeDiff, wipeD, if_true, if_false, Bool.false_eq_true, dTru, dB, Bool.not_true, Bool.not_false] at et
        have hk := R.len
        have part : (PyData.tuple [.int (fW vs off c + atV vs land (off + s)), .tuple (c.map iD ++ [iD land])]) = pT (fW vs off) (c ++ [land]) := by
          unfold pT partD tuN
          rw [fW_app, hcl, List.map_append]
          simp [fW]
        have h1 : ∀ x ∈ C.map (fun c => c ++ [land]), x.length = s + 1 := fun x hx => by
          obtain ⟨y, hy, rfl⟩ := List.mem_map.mp hx
          rw [List.length_append, hC y hy]; rfl
        have g1 : ∀ x ∈ C.map (fun c => c ++ [land]), fW vs off x ≤ fW vs off (c ++ [land]) := fun x hx => by
          obtain ⟨y, hy, rfl⟩ := List.mem_map.mp hx
          rw [fW_app, fW_app, hC y hy, hcl]
          have := hb y hy
          omega
        have hm : c ++ [land] ∈ C.map (fun c => c ++ [land]) := List.mem_map.mpr ⟨c, hc, rfl⟩
        have go : ∀ (x15 : DV), x15 = .dat t → ∃ kvs', gLand (eLand x0 x1 x4 x6 x8 vs hub last used off s (fW vs off) c kvs (some (false, .dat (iD land)))) = some (.nx (eLand x0 x1 x4 x6 x8 vs hub last used off s (fW vs off) c kvs' none)) ∧ RD (fW vs off) (s + 1) kvs' (aAdd A key (C.map fun c => c ++ [land])) := by
          intro x15 _
          have hl2 : (c.map iD ++ [iD land]).length ≤ 100000 := by rw [List.length_append, List.length_map, hcl, List.length_cons, List.length_nil]; omega
          have keyIn : dIn true (.dat (.tuple [iD land, t])) (.dct kvs) = some (dB (!(dFind kvs key).isSome)) := by
            show (keyT (.dat (.tuple [iD land, t]))).map _ = _
            rw [ek, Option.map_some]; simp
          have keyGet : dGet (.dct kvs) (.dat (.tuple [iD land, t])) = (dFind kvs key).map .dat := by
            show (keyT (.dat (.tuple [iD land, t]))).bind _ = _
            rw [ek, Option.bind_some]
          rcases R.at' key with ⟨f1, f2⟩ | ⟨d, C0, f1, f2, C0l, c0, hc0, rfl, g0⟩
          · refine ⟨dPut kvs key (pT (fW vs off) (c ++ [land])), ?_, R.put ?_⟩
            · unfold gLand eLand
              simp only [fnF, startD, sSeq, sNil, sRet, sIf, sSet, sExpr, sTup, sPar, sPar3, sFrz, sRetO, sFor, sNever, sClr, FD.e1, FD.e2, FD.e3, eVar, eRd, eC, eCall, aCons, aNil, eAnd, eOr, eNot, eIf, eTru, tNotF, tAndF, tOrF, eTupL, eLstL, lCons, lNil, lStar, eSl, pN, pS, iSeq, iKeys, iEnum, items, setAll, gtN, gtT, Option.bind_some, Option.map_some, Option.bind_none, Option.map_none, List.map_cons, List.map_nil, List.length_cons, List.length_nil, List.replicate, List.nil_append, List.cons_append, List.append_nil, List.getElem?_cons_zero, List.getElem?_cons_succ, List.set_cons_zero, List.set_cons_succ, Nat.reduceSub, Nat.reduceAdd, Nat.reduceLeDiff, wipeD, if_true, if_false, Bool.false_eq_true, dTru, dB, Bool.not_true, Bool.not_false]
              rw [eb]
              simp only [fnF, startD, sSeq, sNil, sRet, sIf, sSet, sExpr, sTup, sPar, sPar3, sFrz, sRetO, sFor, sNever, sClr, FD.e1, FD.e2, FD.e3, eVar, eRd, eC, eCall, aCons, aNil, eAnd, eOr, eNot, eIf, eTru, tNotF, tAndF, tOrF, eTupL, eLstL, lCons, lNil, lStar, eSl, pN, pS, iSeq, iKeys, iEnum, items, setAll, gtN, gtT, Option.bind_some, Option.map_some, Option.bind_none, Option.map_none, List.map_cons, List.map_nil, List.length_cons, List.length_nil, List.replicate, List.nil_append, List.cons_append, List.append_nil, List.getElem?_cons_zero, List.getElem?_cons_succ, List.set_cons_zero, List.set_cons_succ, Nat.reduceSub, Nat.reduceAdd, Nat.reduceLeDiff, wipeD, if_true, if_false, Bool.false_eq_true, dTru, dB, Bool.not_true, Bool.not_false]
              rw [et]
              simp only [fnF, startD, sSeq, sNil, sRet, sIf, sSet, sExpr, sTup, sPar, sPar3, sFrz, sRetO, sFor, sNever, sClr, FD.e1, FD.e2, FD.e3, eVar, eRd, eC, eCall, aCons, aNil, eAnd, eOr, eNot, eIf, eTru, tNotF, tAndF, tOrF, eTupL, eLstL, lCons, lNil, lStar, eSl, pN, pS, iSeq, iKeys, iEnum, items, setAll, gtN, gtT, Option.bind_some, Option.map_some, Option.bind_none, Option.map_none, List.map_cons, List.map_nil, List.length_cons, List.length_nil, List.replicate, List.nil_append, List.cons_append, List.append_nil, List.getElem?_cons_zero, List.getElem?_cons_succ, List.set_cons_zero, List.set_cons_succ, Nat.reduceSub, Nat.reduceAdd, Nat.reduceLeDiff, wipeD, if_true, if_false, Bool.false_eq_true, dTru, dB, Bool.not_true, Bool.not_false, add_iD]
              rw [hval]
              simp only [fnF, startD, sSeq, sNil, sRet, sIf, sSet, sExpr, sTup, sPar, sPar3, sFrz, sRetO, sFor, sNever, sClr, FD.e1, FD.e2, FD.e3, eVar, eRd, eC, eCall, aCons, aNil, eAnd, eOr, eNot, eIf, eTru, tNotF, tAndF, tOrF, eTupL, eLstL, lCons, lNil, lStar, eSl, pN, pS, iSeq, iKeys, iEnum, items, setAll, gtN, gtT, Option.bind_some, Option.map_some, Option.bind_none, Option.map_none, List.map_cons, List.map_nil, List.length_cons, List.length_nil, List.replicate, List.nil_append, List.cons_append, List.append_nil, List.getElem?_cons_zero, List.getElem?_cons_succ, List.set_cons_zero, List.set_cons_succ, Nat.reduceSub, Nat.reduceAdd, Nat.reduceLeDiff, wipeD, if_true, if_false, Bool.false_eq_true, dTru, dB, Bool.not_true, Bool.not_false, add_int, tuN, if_pos hl2, part, keyIn, f1, Option.isSome_none, sPut, ek]
              rw [if_pos (by omega)]
              rfl
            · rw [f2]
              exact ⟨h1, _, hm, rfl, g1⟩
          · obtain ⟨b, q1, q2, q3⟩ := gt_pT (f := fW vs off) (c ++ [land]) c0
            cases b with
            | true =>
              refine ⟨dPut kvs key (pT (fW vs off) (c ++ [land])), ?_, R.put ?_⟩
              · unfold gLand eLand
                simp only [fnF, startD, sSeq, sNil, sRet, sIf, sSet, sExpr, sTup, sPar, sPar3, sFrz, sRetO, sFor, sNever, sClr, FD.e1, FD.e2, FD.e3, eVar, eRd, eC, eCall, aCons, aNil, eAnd, eOr, eNot, eIf, eTru, tNotF, tAndF, tOrF, eTupL, eLstL, lCons, lNil, lStar, eSl, pN, pS, iSeq, iKeys, iEnum, items, setAll, gtN, gtT, Option.bind_some, Option.map_some, Option.bind_none, Option.map_none, List.map_cons, List.map_nil, List.length_cons, List.length_nil, List.replicate, List.nil_append, List.cons_append, List.append_nil, List.getElem?_cons_zero, List.getElem?_cons_succ, List.set_cons_zero, List.set_cons_succ, Nat.reduceSub, Nat.reduceAdd, Nat.reduceLeDiff, wipeD, if_true, if_false, Bool.false_eq_true, dTru, dB, Bool.not_true, Bool.not_false]
                rw [eb]
                simp only [fnF, startD, sSeq, sNil, sRet, sIf, sSet, sExpr, sTup, sPar, sPar3, sFrz, sRetO, sFor, sNever, sClr, FD.e1, FD.e2, FD.e3, eVar, eRd, eC, eCall, aCons, aNil, eAnd, eOr, eNot, eIf, eTru, tNotF, tAndF, tOrF, eTupL, eLstL, lCons, lNil, lStar, eSl, pN, pS, iSeq, iKeys, iEnum, items, setAll, gtN, gtT, Option.bind_some, Option.map_some, Option.bind_none, Option.map_none, List.map_cons, List.map_nil, List.length_cons, List.length_nil, List.replicate, List.nil_append, List.cons_append, List.append_nil, List.getElem?_cons_zero, List.getElem?_cons_succ, List.set_cons_zero, List.set_cons_succ, Nat.reduceSub, Nat.reduceAdd, Nat.reduceLeDiff, wipeD, if_true, if_false, Bool.false_eq_true, dTru, dB, Bool.not_true, Bool.not_false]
                rw [et]
                simp only [fnF, startD, sSeq, sNil, sRet, sIf, sSet, sExpr, sTup, sPar, sPar3, sFrz, sRetO, sFor, sNever, sClr, FD.e1, FD.e2, FD.e3, eVar, eRd, eC, eCall, aCons, aNil, eAnd, eOr, eNot, eIf, eTru, tNotF, tAndF, tOrF, eTupL, eLstL, lCons, lNil, lStar, eSl, pN, pS, iSeq, iKeys, iEnum, items, setAll, gtN, gtT, Option.bind_some, Option.map_some, Option.bind_none, Option.map_none, List.map_cons, List.map_nil, List.length_cons, List.length_nil, List.replicate, List.nil_append, List.cons_append, List.append_nil, List.getElem?_cons_zero, List.getElem?_cons_succ, List.set_cons_zero, List.set_cons_succ, Nat.reduceSub, Nat.reduceAdd, Nat.reduceLeDiff, wipeD, if_true, if_false, Bool.false_eq_true, dTru, dB, Bool.not_true, Bool.not_false, add_iD]
                rw [hval]
                have q1' : dGt (.dat (pT (fW vs off) (c ++ [land]))) (.dat (partD (fW vs off c0, tuN c0))) = some (dB true) := q1
                simp only [fnF, startD, sSeq, sNil, sRet, sIf, sSet, sExpr, sTup, sPar, sPar3, sFrz, sRetO, sFor, sNever, sClr, FD.e1, FD.e2, FD.e3, eVar, eRd, eC, eCall, aCons, aNil, eAnd, eOr, eNot, eIf, eTru, tNotF, tAndF, tOrF, eTupL, eLstL, lCons, lNil, lStar, eSl, pN, pS, iSeq, iKeys, iEnum, items, setAll, gtN, gtT, Option.bind_some, Option.map_some, Option.bind_none, Option.map_none, List.map_cons, List.map_nil, List.length_cons, List.length_nil, List.replicate, List.nil_append, List.cons_append, List.append_nil, List.getElem?_cons_zero, List.getElem?_cons_succ, List.set_cons_zero, List.set_cons_succ, Nat.reduceSub, Nat.reduceAdd, Nat.reduceLeDiff, wipeD, if_true, if_false, Bool.false_eq_true, dTru, dB, Bool.not_true, Bool.not_false, add_int, tuN, if_pos hl2, part, keyIn, keyGet, f1, Option.isSome_some] at q1' ⊢
                rw [q1']
                simp only [fnF, startD, sSeq, sNil, sRet, sIf, sSet, sExpr, sTup, sPar, sPar3, sFrz, sRetO, sFor, sNever, sClr, FD.e1, FD.e2, FD.e3, eVar, eRd, eC, eCall, aCons, aNil, eAnd, eOr, eNot, eIf, eTru, tNotF, tAndF, tOrF, eTupL, eLstL, lCons, lNil, lStar, eSl, pN, pS, iSeq, iKeys, iEnum, items, setAll, gtN, gtT, Option.bind_some, Option.map_some, Option.bind_none, Option.map_none, List.map_cons, List.map_nil, List.length_cons, List.length_nil, List.replicate, List.nil_append, List.cons_append, List.append_nil, List.getElem?_cons_zero, List.getElem?_cons_succ, List.set_cons_zero, List.set_cons_succ, Nat.reduceSub, Nat.reduceAdd, Nat.reduceLeDiff, wipeD, if_true, if_false, Bool.false_eq_true, dTru, dB, Bool.not_true, Bool.not_false, sPut, ek]
                rw [if_pos (by omega)]
                rfl
              · rw [f2]
                exact Bs.app C0l h1 g0 g1 (List.mem_append_right _ hm) (q2 rfl) (Int.le_refl _)
            | false =>
              refine ⟨kvs, ?_, R.skip f2 f1 ?_⟩
              · unfold gLand eLand
                simp only [fnF, startD, sSeq, sNil, sRet, sIf, sSet, sExpr, sTup, sPar, sPar3, sFrz, sRetO, sFor, sNever, sClr, FD.e1, FD.e2, FD.e3, eVar, eRd, eC, eCall, aCons, aNil, eAnd, eOr, eNot, eIf, eTru, tNotF, tAndF, tOrF, eTupL, eLstL, lCons, lNil, lStar, eSl, pN, pS, iSeq, iKeys, iEnum, items, setAll, gtN, gtT, Option.bind_some, Option.map_some, Option.bind_none, Option.map_none, List.map_cons, List.map_nil, List.length_cons, List.length_nil, List.replicate, List.nil_append, List.cons_append, List.append_nil, List.getElem?_cons_zero, List.getElem?_cons_succ, List.set_cons_zero, List.set_cons_succ, Nat.reduceSub, Nat.reduceAdd, Nat.reduceLeDiff, wipeD, if_true, if_false, Bool.false_eq_true, dTru, dB, Bool.not_true, Bool.not_false]
                rw [eb]
                simp only [fnF, startD, sSeq, sNil, sRet, sIf, sSet, sExpr, sTup, sPar, sPar3, sFrz, sRetO, sFor, sNever, sClr, FD.e1, FD.e2, FD.e3, eVar, eRd, eC, eCall, aCons, aNil, eAnd, eOr, eNot, eIf, eTru, tNotF, tAndF, tOrF, eTupL, eLstL, lCons, lNil, lStar, eSl, pN, pS, iSeq, iKeys, iEnum, items, setAll, gtN, gtT, Option.bind_some, Option.map_some, Option.bind_none, Option.map_none, List.map_cons, List.map_nil, List.length_cons, List.length_nil, List.replicate, List.nil_append, List.cons_append, List.append_nil, List.getElem?_cons_zero, List.getElem?_cons_succ, List.set_cons_zero, List.set_cons_succ, Nat.reduceSub, Nat.reduceAdd, Nat.reduceLeDiff, wipeD, if_true, if_false, Bool.false_eq_true, dTru, dB, Bool.not_true, Bool.not_false]
                rw [et]
                simp only [fnF, startD, sSeq, sNil, sRet, sIf, sSet, sExpr, sTup, sPar, sPar3, sFrz, sRetO, sFor, sNever, sClr, FD.e1, FD.e2, FD.e3, eVar, eRd, eC, eCall, aCons, aNil, eAnd, eOr, eNot, eIf, eTru, tNotF, tAndF, tOrF, eTupL, eLstL, lCons, lNil, lStar, eSl, pN, pS, iSeq, iKeys, iEnum, items, setAll, gtN, gtT, Option.bind_some, Option.map_some, Option.bind_none, Option.map_none, List.map_cons, List.map_nil, List.length_cons, List.length_nil, List.replicate, List.nil_append, List.cons_append, List.append_nil, List.getElem?_cons_zero, List.getElem?_cons_succ, List.set_cons_zero, List.set_cons_succ, Nat.reduceSub, Nat.reduceAdd, Nat.reduceLeDiff, wipeD, if_true, if_false, Bool.false_eq_true, dTru, dB, Bool.not_true, Bool.not_false, add_iD]
                rw [hval]
                have q1' : dGt (.dat (pT (fW vs off) (c ++ [land]))) (.dat (partD (fW vs off c0, tuN c0))) = some (dB false) := q1
                simp only [fnF, startD, sSeq, sNil, sRet, sIf, sSet, sExpr, sTup, sPar, sPar3, sFrz, sRetO, sFor, sNever, sClr, FD.e1, FD.e2, FD.e3, eVar, eRd, eC, eCall, aCons, aNil, eAnd, eOr, eNot, eIf, eTru, tNotF, tAndF, tOrF, eTupL, eLstL, lCons, lNil, lStar, eSl, pN, pS, iSeq, iKeys, iEnum, items, setAll, gtN, gtT, Option.bind_some, Option.map_some, Option.bind_none, Option.map_none, List.map_cons, List.map_nil, List.length_cons, List.length_nil, List.replicate, List.nil_append, List.cons_append, List.append_nil, List.getElem?_cons_zero, List.getElem?_cons_succ, List.set_cons_zero, List.set_cons_succ, Nat.reduceSub, Nat.reduceAdd, Nat.reduceLeDiff, wipeD, if_true, if_false, Bool.false_eq_true, dTru, dB, Bool.not_true, Bool.not_false, add_int, tuN, if_pos hl2, part, keyIn, keyGet, f1, Option.isSome_some] at q1' ⊢
                rw [q1']
                simp only [fnF, startD, sSeq, sNil, sRet, sIf, sSet, sExpr, sTup, sPar, sPar3, sFrz, sRetO, sFor, sNever, sClr, FD.e1, FD.e2, FD.e3, eVar, eRd, eC, eCall, aCons, aNil, eAnd, eOr, eNot, eIf, eTru, tNotF, tAndF, tOrF, eTupL, eLstL, lCons, lNil, lStar, eSl, pN, pS, iSeq, iKeys, iEnum, items, setAll, gtN, gtT, Option.bind_some, Option.map_some, Option.bind_none, Option.map_none, List.map_cons, List.map_nil, List.length_cons, List.length_nil, List.replicate, List.nil_append, List.cons_append, List.append_nil, List.getElem?_cons_zero, List.getElem?_cons_succ, List.set_cons_zero, List.set_cons_succ, Nat.reduceSub, Nat.reduceAdd, Nat.reduceLeDiff, wipeD, if_true, if_false, Bool.false_eq_true, dTru, dB, Bool.not_true, Bool.not_false]
              · exact Bs.app C0l h1 g0 g1 (List.mem_append_left _ hc0) (Int.le_refl _) (q3 rfl)
        obtain ⟨kvs', z1, z2⟩ := go _ rfl
        exact ⟨_, _, rfl, z1, kvs', rfl, z2⟩
      · cases e
    · cases e
end K08
end

section
set_option Elab.async false
set_option linter.all false
set_option maxRecDepth 100000
set_option maxHeartbeats 4000000
/-! M12: the arm, whole. -/
namespace K08
open PySem FD
variable {a l k n : Nat} {vs : List (List Int)}
def aKey (hub : PyData) (k : Nat) (rows more : AD) (p : NestedKey × LL) : Option AD := match p.1.data with
  | .tuple [last, used] => (keyT (.dat (.tuple [last, used]))).bind fun key => (aFind rows key).bind fun C => foldO (aLand hub last used C) more (List.range k)
  | _ => none
def eKey (x0 x1 x4 x8 : Option (Bool × DV)) (vs : List (List Int)) (hub : PyData) (off s : Nat) (rows kvs : List (NestedKey × PyData)) : DE :=
  [x0, x1, some (false, valsD vs), some (false, .dat hub), x4, some (false, .dat (iD off)), some (false, .dct rows), some (false, .dat (iD s)), x8, some (true, .dct kvs), none, none, none, none, none, none, none]
def gKey : DE → Option Out := (sClr [10, 11, 12, 13, 14, 15, 16] (sSeq (sTup [13, 14] (e2 dGet (eVar 6) (eTupL (lCons (eVar 10) (lCons (eVar 11) lNil))))) (sSeq (sFor (iRange (e1 dLen (eVar 2))) (gtN 12) gLand) sNil)))
theorem rng_iD (k : Nat) : rngD k = (List.range k).map iD := rfl
theorem iRange_val {x : DE → Option DV} {env : DE} (h : x env = some (.dat (iD k))) (hk : k ≤ 100000) : iRange x env = some ((List.range k).map iD) := by
  rw [← rng_iD]
  exact iRange_of (n := k) h hk
theorem sFor_of {it : DE → Option (List PyData)} {gt : PyData → DE → Option DE} {body : DE → Option Out} {env : DE} {ds : List PyData} (h : it env = some ds) : sFor it gt body env = forGo gt body ds env := by
  unfold sFor; rw [h, Option.bind_some]
theorem sSeq_nx {g1 g2 : DE → Option Out} {env e : DE} (h : g1 env = some (.nx e)) : sSeq g1 g2 env = g2 e := by unfold sSeq; rw [h, Option.bind_some]
theorem sClr_nx {g : DE → Option Out} {env e : DE} {vs : List Nat} (h : g env = some (.nx e)) : sClr vs g env = some (.nx (wipeD e vs)) := by unfold sClr; rw [h, Option.map_some]
theorem tup_row {x0 x1 x2 x3 x4 x5 x7 x8 x9 : Option (Bool × DV)} {rows : List (NestedKey × PyData)} {last used p q : PyData} (keyGet : dGet (.dct rows) (.dat (.tuple [last, used])) = some (.dat (.tuple [p, q]))) :
    sTup [13, 14] (e2 dGet (eVar 6) (eTupL (lCons (eVar 10) (lCons (eVar 11) lNil)))) [x0, x1, x2, x3, x4, x5, some (false, .dct rows), x7, x8, x9, some (false, .dat last), some (false, .dat used), none, none, none, none, none] = some (.nx [x0, x1, x2, x3, x4, x5, some (false, .dct rows), x7, x8, x9, some (false, .dat last), some (false, .dat used), none, some (false, .dat p), some (false, .dat q), none, none]) := by
  simp only [fnF, startD, sSeq, sNil, sRet, sIf, sSet, sExpr, sTup, sPar, sPar3, sFrz, sRetO, sFor, sNever, sClr, FD.e1, FD.e2, FD.e3, eVar, eRd, eC, eCall, aCons, aNil, eAnd, eOr, eNot, eIf, eTru, tNotF, tAndF, tOrF, eTupL, eLstL, lCons, lNil, lStar, eSl, pN, pS, iSeq, iKeys, iEnum, items, setAll, gtN, gtT, Option.bind_some, Option.map_some, Option.bind_none, Option.map_none, List.map_cons, List.map_nil, List.length_cons, List.length_nil, List.replicate, List.nil_append, List.cons_append, List.append_nil, List.getElem?_cons_zero, List.getElem?_cons_succ, List.set_cons_zero, List.set_cons_succ, Nat.reduceSub, Nat.reduceAdd, Nat.reduceLeDiff, wipeD, if_true, if_false, Bool.false_eq_true, dTru, dB, Bool.not_true, Bool.not_false, keyGet]
theorem key_ok (V : VOk9 k n vs) (hk : k ≤ 1000) {x0 x1 x4 x8 : Option (Bool × DV)} {hub : PyData} {off s : Nat} {rows : List (NestedKey × PyData)} {B : AD} (hs : off + s < n) (hs2 : s ≤ 1000) (RB : RD (fW vs off) s rows B)
    {p : NestedKey × LL} {env : DE} {A A' : AD} (r : ∃ kvs, env = eKey x0 x1 x4 x8 vs hub off s rows kvs ∧ RD (fW vs off) (s + 1) kvs A) (e : aKey hub k B A p = some A') :
    ∃ e1 env', gtT [10, 11] p.1.data env = some e1 ∧ gKey e1 = some (.nx env') ∧ ∃ kvs, env' = eKey x0 x1 x4 x8 vs hub off s rows kvs ∧ RD (fW vs off) (s + 1) kvs A' := by
  obtain ⟨kvs, rfl, R⟩ := r
  unfold aKey at e
  split at e
  · rename_i last used ed
    obtain ⟨key, ek, e⟩ := Option.bind_eq_some_iff.mp e
    obtain ⟨C, eC, e⟩ := Option.bind_eq_some_iff.mp e
    obtain ⟨d, fd, hC, c, hc, rfl, hb⟩ := RB.find eC
    obtain ⟨env2, h1, kvs2, rfl, R2⟩ := forGo_relO (f := iD) (gt := gtN 12) (body := gLand) (R := fun env A => ∃ kvs, env = eLand x0 x1 x4 (some (false, .dct rows)) x8 vs hub last used off s (fW vs off) c kvs none ∧ RD (fW vs off) (s + 1) kvs A)
      (fun land hl env A A' r e => land_ok V hs hs2 hC hc hb (List.mem_range.mp hl) r e) ⟨kvs, rfl, R⟩ e
    have hv : dLen (valsD vs) = some (.dat (iD k)) := by rw [dLen_vals, V.len]; rfl
    have keyGet : dGet (.dct rows) (.dat (.tuple [last, used])) = some (.dat (partD (fW vs off c, tuN c))) := by
      show (keyT (.dat (.tuple [last, used]))).bind _ = _
      rw [ek, Option.bind_some, fd, Option.map_some]
    refine ⟨_, _, by rw [ed]; rfl, ?_, kvs2, rfl, R2⟩
    have hr : iRange (e1 dLen (eVar 2)) (eLand x0 x1 x4 (some (false, .dct rows)) x8 vs hub last used off s (fW vs off) c kvs none) = some ((List.range k).map iD) := iRange_val (by show dLen (valsD vs) = _; exact hv) (Nat.le_trans hk (by decide))
    have hb : sSeq (sTup [13, 14] (e2 dGet (eVar 6) (eTupL (lCons (eVar 10) (lCons (eVar 11) lNil))))) (sSeq (sFor (iRange (e1 dLen (eVar 2))) (gtN 12) gLand) sNil) [x0, x1, some (false, valsD vs), some (false, .dat hub), x4, some (false, .dat (iD off)), some (false, .dct rows), some (false, .dat (iD s)), x8, some (true, .dct kvs), some (false, .dat last), some (false, .dat used), none, none, none, none, none] = some (.nx (eLand x0 x1 x4 (some (false, .dct rows)) x8 vs hub last used off s (fW vs off) c kvs2 none)) := by
      rw [sSeq_nx (tup_row keyGet), sSeq_nx (e := eLand x0 x1 x4 (some (false, .dct rows)) x8 vs hub last used off s (fW vs off) c kvs2 none) (by
        rw [← h1]
        exact sFor_of hr)]
      rfl
    exact sClr_nx hb
  · cases e
end K08
end

section
set_option Elab.async false
set_option linter.all false
set_option maxRecDepth 100000
set_option maxHeartbeats 4000000
/-! M13: the arm, whole. -/
namespace K08
open PySem FD
variable {a l k n : Nat} {vs : List (List Int)}
def aLevel (hub : PyData) (k : Nat) (st : Nat × AD) (i : Nat) : Option (Nat × AD) := if i = st.1 then (foldO (aKey hub k st.2) [] st.2).map fun A => (st.1 + 1, A) else none
def eArm (x0 x1 x4 x8 : Option (Bool × DV)) (vs : List (List Int)) (hub : PyData) (off : Nat) (rows : List (NestedKey × PyData)) : DE :=
  [x0, x1, some (false, valsD vs), some (false, .dat hub), x4, some (false, .dat (iD off)), some (false, .dct rows), none, x8, none, none, none, none, none, none, none, none]
def gLvl : DE → Option Out := (sClr [7, 9, 10, 11, 12, 13, 14, 15, 16] (sSeq (sSet true 9 eDct0) (sSeq (sFor (iKeys (eVar 6)) (gtT [10, 11]) gKey) (sSeq (sFrz 6 9) sNil))))
theorem keys_data {f : List Nat → Int} {n : Nat} {kvs : List (NestedKey × PyData)} {A : AD} (r : RD f n kvs A) : kvs.map (fun p => p.1.data) = A.map fun p => p.1.data := by
  have := congrArg (List.map NestedKey.data) r.keys
  rw [List.map_map, List.map_map] at this
  exact this
theorem lvl_ok (V : VOk9 k n vs) (hk : k ≤ 1000) {x0 x1 x4 x8 : Option (Bool × DV)} {hub : PyData} {off : Nat} (hl : l ≤ 1000) (hn : off + l ≤ n)
    {i : Nat} (hi : i < l) {env : DE} {st st' : Nat × AD} (r : ∃ rows, env = eArm x0 x1 x4 x8 vs hub off rows ∧ RD (fW vs off) st.1 rows st.2) (e : aLevel hub k st i = some st') :
    ∃ e1 env', gtN 7 (iD i) env = some e1 ∧ gLvl e1 = some (.nx env') ∧ ∃ rows, env' = eArm x0 x1 x4 x8 vs hub off rows ∧ RD (fW vs off) st'.1 rows st'.2 := by
  obtain ⟨rows, rfl, R⟩ := r
  unfold aLevel at e
  split at e
  · rename_i hs
    obtain ⟨A', eA, rfl⟩ := Option.map_eq_some_iff.mp e
    obtain ⟨env2, h1, kvs2, rfl, R2⟩ := forGo_relO (f := fun p : NestedKey × LL => p.1.data) (gt := gtT [10, 11]) (body := gKey) (R := fun env A => ∃ kvs, env = eKey x0 x1 x4 x8 vs hub off st.1 rows kvs ∧ RD (fW vs off) (st.1 + 1) kvs A)
      (fun p hp env A A' r e => key_ok V hk (by omega) (by omega) R r e) ⟨[], rfl, RD.nil⟩ eA
    refine ⟨_, _, rfl, ?_, kvs2, rfl, R2⟩
    have hr : iKeys (eVar 6) (eKey x0 x1 x4 x8 vs hub off st.1 rows []) = some (st.2.map fun p => p.1.data) := by
      rw [← keys_data R]; rfl
    have hb : sSeq (sSet true 9 eDct0) (sSeq (sFor (iKeys (eVar 6)) (gtT [10, 11]) gKey) (sSeq (sFrz 6 9) sNil)) [x0, x1, some (false, valsD vs), some (false, .dat hub), x4, some (false, .dat (iD off)), some (false, .dct rows), some (false, .dat (iD i)), x8, none, none, none, none, none, none, none, none] = some (.nx [x0, x1, some (false, valsD vs), some (false, .dat hub), x4, some (false, .dat (iD off)), some (false, .dct kvs2), some (false, .dat (iD i)), x8, some (false, .dct kvs2), none, none, none, none, none, none, none]) := by
      subst hs
      rw [sSeq_nx (e := eKey x0 x1 x4 x8 vs hub off st.1 rows []) rfl, sSeq_nx (e := eKey x0 x1 x4 x8 vs hub off st.1 rows kvs2) (by
        rw [← h1]
        exact sFor_of hr)]
      rfl
    exact sClr_nx hb
  · cases e
/-- the last: by the lands used -/
def aLast (rows found : AD) (p : NestedKey × LL) : Option AD := match p.1.data with
  | .tuple [last, used] => (keyT (.dat (.tuple [last, used]))).bind fun key => (aFind rows key).bind fun C => (keyT (.dat used)).bind fun ku => if found.length ≤ 100000 then some (aAdd found ku C) else none
  | _ => none
def eLast (x0 x1 x2 x3 x4 x5 : Option (Bool × DV)) (rows kvs : List (NestedKey × PyData)) (x10 x11 : Option (Bool × DV)) : DE :=
  [x0, x1, x2, x3, x4, x5, some (false, .dct rows), none, some (true, .dct kvs), none, x10, x11, none, none, none, none, none]
def gLast : DE → Option Out := (sClr [] (sSeq (sPut 8 (e2 dMax2 (e3 dGet2 (eRd 8) (eVar 11) (e2 dGet (eVar 6) (eTupL (lCons (eVar 10) (lCons (eVar 11) lNil))))) (e2 dGet (eVar 6) (eTupL (lCons (eVar 10) (lCons (eVar 11) lNil))))) (eVar 11)) sNil))
theorem last_ok {f : List Nat → Int} {x0 x1 x2 x3 x4 x5 : Option (Bool × DV)} {rows : List (NestedKey × PyData)} {B : AD} (RB : RD f n rows B)
    {p : NestedKey × LL} {env : DE} {A A' : AD} (r : ∃ kvs x10 x11, env = eLast x0 x1 x2 x3 x4 x5 rows kvs x10 x11 ∧ RD f n kvs A) (e : aLast B A p = some A') :
    ∃ e1 env', gtT [10, 11] p.1.data env = some e1 ∧ gLast e1 = some (.nx env') ∧ ∃ kvs x10 x11, env' = eLast x0 x1 x2 x3 x4 x5 rows kvs x10 x11 ∧ RD f n kvs A' := by
  obtain ⟨kvs, x10, x11, rfl, R⟩ := r
  unfold aLast at e
  split at e
  · rename_i last used ed
    obtain ⟨key, ek, e⟩ := Option.bind_eq_some_iff.mp e
    obtain ⟨C, eC, e⟩ := Option.bind_eq_some_iff.mp e
    obtain ⟨ku, eu, e⟩ := Option.bind_eq_some_iff.mp e
    split at e
    · rename_i hlen
      cases e
      obtain ⟨d, fd, hC, c, hc, rfl, hb⟩ := RB.find eC
      have hk := R.len
      have keyGet : dGet (.dct rows) (.dat (.tuple [last, used])) = some (.dat (pT f c)) := by
        show (keyT (.dat (.tuple [last, used]))).bind _ = _
        rw [ek, Option.bind_some, fd, Option.map_some]; rfl
      have keyGet2 : dGet2 (.dct kvs) (.dat used) (.dat (pT f c)) = some (.dat ((dFind kvs ku).getD (pT f c))) := by
        show (keyT (.dat used)).map _ = _
        rw [eu, Option.map_some]
      have fin : ∀ m, dMax2 (.dat ((dFind kvs ku).getD (pT f c))) (.dat (pT f c)) = some (.dat (pT f m)) → gLast (eLast x0 x1 x2 x3 x4 x5 rows kvs (some (false, .dat last)) (some (false, .dat used))) = some (.nx (eLast x0 x1 x2 x3 x4 x5 rows (dPut kvs ku (pT f m)) (some (false, .dat last)) (some (false, .dat used)))) := by
        intro m hm
        unfold gLast eLast
        simp only [fnF, startD, sSeq, sNil, sRet, sIf, sSet, sExpr, sTup, sPar, sPar3, sFrz, sRetO, sFor, sNever, sClr, FD.e1, FD.e2, FD.e3, eVar, eRd, eC, eCall, aCons, aNil, eAnd, eOr, eNot, eIf, eTru, tNotF, tAndF, tOrF, eTupL, eLstL, lCons, lNil, lStar, eSl, pN, pS, iSeq, iKeys, iEnum, items, setAll, gtN, gtT, Option.bind_some, Option.map_some, Option.bind_none, Option.map_none, List.map_cons, List.map_nil, List.length_cons, List.length_nil, List.replicate, List.nil_append, List.cons_append, List.append_nil, List.getElem?_cons_zero, List.getElem?_cons_succ, List.set_cons_zero, List.set_cons_succ, Nat.reduceSub, Nat.reduceAdd, Nat.reduceLeDiff, wipeD, if_true, if_false, Bool.false_eq_true, dTru, dB, Bool.not_true, Bool.not_false, keyGet, keyGet2, hm, sPut, eu]
        rw [if_pos (by omega)]
        rfl
      rcases R.at' ku with ⟨f1, f2⟩ | ⟨d, C0, f1, f2, C0l, c0, hc0, rfl, g0⟩
      · obtain ⟨m, hm, q1, q2, q3⟩ := max2_pT (f := f) c c
        have hm : m = c := by rcases hm with h | h <;> exact h
        subst hm
        rw [f1] at fin
        refine ⟨_, _, by rw [ed]; rfl, fin _ q1, _, _, _, rfl, R.put ?_⟩
        rw [f2]
        exact ⟨hC, _, hc, rfl, hb⟩
      · obtain ⟨m, hm, q1, q2, q3⟩ := max2_pT (f := f) c0 c
        rw [f1] at fin
        refine ⟨_, _, by rw [ed]; rfl, fin _ q1, _, _, _, rfl, R.put ?_⟩
        rw [f2]
        exact Bs.app (m := m) C0l hC g0 hb (hm.elim (fun h => h ▸ List.mem_append_left _ hc0) fun h => h ▸ List.mem_append_right _ hc) q2 q3
    · cases e
  · cases e
theorem mul_iD {i j : Nat} (hi : i ≤ 1000) : dMul (.dat (iD i)) (.dat (iD j)) = some (.dat (iD (i * j))) := by
  have h : -(2 ^ 64) < ((i : Nat) : Int) ∧ ((i : Nat) : Int) < 2 ^ 64 := by constructor <;> omega
  unfold dMul dI iD
  simp only []
  rw [if_pos h, Option.map_some, Int.natCast_mul]
theorem e2_of {g : DV → DV → Option DV} {f1 f2 : DE → Option DV} {env : DE} {x y z : DV} (h1 : f1 env = some x) (h2 : f2 env = some y) (h3 : g x y = some z) : e2 g f1 f2 env = some z := by
  unfold e2; rw [h1, Option.bind_some, h2, Option.bind_some, h3]
theorem sSet_of {b : Bool} {i : Nat} {f : DE → Option DV} {env : DE} {x : DV} (h : f env = some x) : sSet b i f env = some (.nx (env.set i (some (b, x)))) := by
  unfold sSet; rw [h, Option.map_some]
theorem one_iD (i : Nat) : dAdd (.dat (.int 1)) (.dat (iD i)) = some (.dat (iD (1 + i))) := by
  have : (1 : Int) + (i : Int) = ((1 + i : Nat) : Int) := by omega
  show some (DV.dat (.int ((1 : Int) + (i : Int)))) = _
  rw [this]; rfl
def armA (k l : Nat) (hub : Nat) : Option AD := (keyT (.dat (.tuple [iD hub, .tuple []]))).bind fun key => (foldO (aLevel (iD hub) k) (0, [(key, [[]])]) (List.range l)).bind fun st => if st.1 = l then foldO (aLast st.2) [] st.2 else none
theorem arm_ok (V : VOk9 k n vs) (hk : k ≤ 1000) (hl : l ≤ 1000) {hub arm : Nat} (ha : arm ≤ 1000) (hn : 1 + arm * l + l ≤ n) {A : AD} (e : armA k l hub = some A) :
    ∃ kvs, F_arm_bests [.dat (iD a), .dat (iD l), valsD vs, .dat (iD hub), .dat (iD arm)] = some (.dct kvs) ∧ RD (fW vs (1 + arm * l)) l kvs A := by
  unfold armA at e
  obtain ⟨key, ek, e⟩ := Option.bind_eq_some_iff.mp e
  obtain ⟨st, es, e⟩ := Option.bind_eq_some_iff.mp e
  split at e
  · rename_i hst
    have R0 : RD (fW vs (1 + arm * l)) 0 [(key, .tuple [.int 0, .tuple []])] [(key, [[]])] := by
      refine ⟨rfl, fun k' => ?_⟩
      rw [show dFind [(key, PyData.tuple [.int 0, .tuple []])] k' = aFind [(key, PyData.tuple [.int 0, .tuple []])] k' from rfl, aFind_cons, aFind_cons]
      by_cases h : key = k'
      · rw [if_pos h, if_pos h]
        exact .inr ⟨_, _, rfl, rfl, by simp, [], by simp, rfl, by simp⟩
      · rw [if_neg h, if_neg h]; exact .inl ⟨rfl, rfl⟩
    obtain ⟨env1, h1, rows, rfl, R1⟩ := forGo_relO (f := iD) (gt := gtN 7) (body := gLvl) (R := fun env st => ∃ rows, env = eArm (some (false, .dat (iD a))) (some (false, .dat (iD l))) (some (false, .dat (iD arm))) none vs (iD hub) (1 + arm * l) rows ∧ RD (fW vs (1 + arm * l)) st.1 rows st.2)
      (fun i hi env st st' r e => lvl_ok V hk hl hn (List.mem_range.mp hi) r e) ⟨_, rfl, R0⟩ es
    rw [hst] at R1
    obtain ⟨env2, h2, kvs, x10, x11, rfl, R2⟩ := forGo_relO (f := fun p : NestedKey × LL => p.1.data) (gt := gtT [10, 11]) (body := gLast) (R := fun env A => ∃ kvs x10 x11, env = eLast (some (false, .dat (iD a))) (some (false, .dat (iD l))) (some (false, valsD vs)) (some (false, .dat (iD hub))) (some (false, .dat (iD arm))) (some (false, .dat (iD (1 + arm * l)))) rows kvs x10 x11 ∧ RD (fW vs (1 + arm * l)) l kvs A)
      (fun p hp env A A' r e => last_ok R1 r e) ⟨[], none, none, rfl, RD.nil⟩ e
    refine ⟨kvs, ?_, R2⟩
    have hr : iRange (eVar 1) (eArm (some (false, .dat (iD a))) (some (false, .dat (iD l))) (some (false, .dat (iD arm))) none vs (iD hub) (1 + arm * l) [(key, .tuple [.int 0, .tuple []])]) = some ((List.range l).map iD) := iRange_val rfl (Nat.le_trans hl (by decide))
    have hr2 : iKeys (eVar 6) (eLast (some (false, .dat (iD a))) (some (false, .dat (iD l))) (some (false, valsD vs)) (some (false, .dat (iD hub))) (some (false, .dat (iD arm))) (some (false, .dat (iD (1 + arm * l)))) rows [] none none) = some (st.2.map fun p => p.1.data) := by
      rw [← keys_data R1]; rfl
    have s1 : sSet false 5 (e2 dAdd (eC (.int 1)) (e2 dMul (eVar 4) (eVar 1))) (startD 17 [.dat (iD a), .dat (iD l), valsD vs, .dat (iD hub), .dat (iD arm)]) = some (.nx [some (false, .dat (iD a)), some (false, .dat (iD l)), some (false, valsD vs), some (false, .dat (iD hub)), some (false, .dat (iD arm)), some (false, .dat (iD (1 + arm * l))), none, none, none, none, none, none, none, none, none, none, none]) := by
      exact sSet_of (e2_of (x := .dat (.int 1)) (y := .dat (iD (arm * l))) (z := .dat (iD (1 + arm * l))) rfl (e2_of (x := .dat (iD arm)) (y := .dat (iD l)) rfl rfl (mul_iD ha)) (one_iD _))
    have s2 : sSet false 6 (eDct1 (eTupL (lCons (eVar 3) (lCons (eTupL lNil) lNil))) (eTupL (lCons (eC (.int 0)) (lCons (eTupL lNil) lNil)))) [some (false, .dat (iD a)), some (false, .dat (iD l)), some (false, valsD vs), some (false, .dat (iD hub)), some (false, .dat (iD arm)), some (false, .dat (iD (1 + arm * l))), none, none, none, none, none, none, none, none, none, none, none] = some (.nx (eArm (some (false, .dat (iD a))) (some (false, .dat (iD l))) (some (false, .dat (iD arm))) none vs (iD hub) (1 + arm * l) [(key, .tuple [.int 0, .tuple []])])) := by
      simp only [fnF, startD, sSeq, sNil, sRet, sIf, sSet, sExpr, sTup, sPar, sPar3, sFrz, sRetO, sFor, sNever, sClr, FD.e1, FD.e2, FD.e3, eVar, eRd, eC, eCall, aCons, aNil, eAnd, eOr, eNot, eIf, eTru, tNotF, tAndF, tOrF, eTupL, eLstL, lCons, lNil, lStar, eSl, pN, pS, iSeq, iKeys, iEnum, items, setAll, gtN, gtT, Option.bind_some, Option.map_some, Option.bind_none, Option.map_none, List.map_cons, List.map_nil, List.length_cons, List.length_nil, List.replicate, List.nil_append, List.cons_append, List.append_nil, List.getElem?_cons_zero, List.getElem?_cons_succ, List.set_cons_zero, List.set_cons_succ, Nat.reduceSub, Nat.reduceAdd, Nat.reduceLeDiff, wipeD, if_true, if_false, Bool.false_eq_true, dTru, dB, Bool.not_true, Bool.not_false, eDct1, ek]
      rfl
    have eg : g_arm_bests = sSeq (sSet false 5 (e2 dAdd (eC (.int 1)) (e2 dMul (eVar 4) (eVar 1)))) (sSeq (sSet false 6 (eDct1 (eTupL (lCons (eVar 3) (lCons (eTupL lNil) lNil))) (eTupL (lCons (eC (.int 0)) (lCons (eTupL lNil) lNil))))) (sSeq (sFor (iRange (eVar 1)) (gtN 7) gLvl) (sSeq (sSet true 8 eDct0) (sSeq (sFor (iKeys (eVar 6)) (gtT [10, 11]) gLast) (sSeq (sRetO 8) sNil))))) := rfl
    unfold F_arm_bests fnF
    rw [eg, sSeq_nx s1, sSeq_nx s2, sSeq_nx (e := eArm (some (false, .dat (iD a))) (some (false, .dat (iD l))) (some (false, .dat (iD arm))) none vs (iD hub) (1 + arm * l) rows) (by rw [← h1]; exact sFor_of hr),
      sSeq_nx (e := eLast (some (false, .dat (iD a))) (some (false, .dat (iD l))) (some (false, valsD vs)) (some (false, .dat (iD hub))) (some (false, .dat (iD arm))) (some (false, .dat (iD (1 + arm * l)))) rows [] none none) rfl,
      sSeq_nx (e := eLast (some (false, .dat (iD a))) (some (false, .dat (iD l))) (some (false, valsD vs)) (some (false, .dat (iD hub))) (some (false, .dat (iD arm))) (some (false, .dat (iD (1 + arm * l)))) rows kvs x10 x11) (by rw [← h2]; exact sFor_of hr2)]
    rfl
  · cases e
end K08
end

section
set_option Elab.async false
set_option linter.all false
set_option maxRecDepth 100000
set_option maxHeartbeats 4000000
/-! M14: the best for a hub. -/
namespace K08
open PySem FD
variable {a l k n : Nat} {vs : List (List Int)}
def aAnyU (used : PyData) : List PyData → Option Bool
  | [] => some false
  | d :: ds => (dIn false (.dat d) (.dat used)).bind fun y => match y with
    | .dat (.bool b) => if b = true then some true else aAnyU used ds
    | _ => none
def aThr2 (used lot : PyData) : Option DV := e1 dTuple (e1 dSorted (eLstL (lStar (fun _ => some (.dat used)) (lStar (fun _ => some (.dat lot)) lNil)))) []
def aLot (arms : AD) (used : PyData) (C : LL) (more : AD) (q : NestedKey × LL) : Option AD := match q.1.data with
  | .tuple lot => (aAnyU used lot).bind fun b => if b = true then some more else (aThr2 used (.tuple lot)).bind fun t => match t with
    | .dat t => (keyT (.dat t)).bind fun key => (keyT (.dat (.tuple lot))).bind fun kl => (aFind arms kl).bind fun E => if more.length ≤ 100000 then some (aAdd more key (C.flatMap fun c => E.map fun e => c ++ e)) else none
    | _ => none
  | _ => none
def gLot : DE → Option Out := (sClr [11, 12, 13] (sSeq (sIf (tNotF (eTru (FDG.eAny true [14] (iSeq (eVar 11)) (gtN 14) (e2 (dIn false) (eVar 14) (eVar 6))))) (sSeq (sSet false 12 (e1 dTuple (e1 dSorted (eLstL (lStar (eVar 6) (lStar (eVar 11) lNil)))))) (sSeq (sSet false 13 (eTupL (lCons (e2 dAdd (eVar 7) (e2 dIx (e2 dGet (eVar 9) (eVar 11)) (eC (.int 0)))) (lCons (eTupL (lStar (eVar 8) (lStar (e2 dIx (e2 dGet (eVar 9) (eVar 11)) (eC (.int 1))) lNil))) lNil)))) (sSeq (sIf (tOrF (eTru (e2 (dIn true) (eVar 12) (eRd 10))) (eTru (e2 dGt (eVar 13) (e2 dGet (eRd 10) (eVar 12))))) (sSeq (sPut 10 (eVar 13) (eVar 12)) sNil) sNil) sNil))) sNil) sNil))
def eLot (x0 x1 x2 x3 x4 x5 : Option (Bool × DV)) (used : PyData) (f : List Nat → Int) (c : List Nat) (arms kvs : List (NestedKey × PyData)) (x11 : Option (Bool × DV)) : DE :=
  [x0, x1, x2, x3, x4, x5, some (false, .dat used), some (false, .dat (.int (f c))), some (false, .dat (tuN c)), some (false, .dct arms), some (true, .dct kvs), x11, none, none, none]
theorem anyU_of {x0 x1 x2 x3 x4 x5 x7 x8 x9 x10 x11 x12 x13 x14 : Option (Bool × DV)} {used : PyData} : ∀ (lot : List PyData) {b : Bool}, aAnyU used lot = some b → FDG.anyGo true [14] (gtN 14) (e2 (dIn false) (eVar 14) (eVar 6)) [x0, x1, x2, x3, x4, x5, some (false, .dat used), x7, x8, x9, x10, x11, x12, x13, x14] lot = some b
  | [], b, h => h
  | d :: ds, b, h => by
    unfold aAnyU at h
    obtain ⟨y, ey, h⟩ := Option.bind_eq_some_iff.mp h
    unfold FDG.anyGo
    simp only [fnF, startD, sSeq, sNil, sRet, sIf, sSet, sExpr, sTup, sPar, sPar3, sFrz, sRetO, sFor, sNever, sClr, FD.e1, FD.e2, FD.e3, eVar, eRd, eC, eCall, aCons, aNil, eAnd, eOr, eNot, eIf, eTru, tNotF, tAndF, tOrF, eTupL, eLstL, lCons, lNil, lStar, eSl, pN, pS, iSeq, iKeys, iEnum, items, setAll, gtN, gtT, Option.bind_some, Option.map_some, Option.bind_none, Option.map_none, List.map_cons, List.map_nil, List.length_cons, List.length_nil, List.replicate, List.nil_append, List.cons_append, List.append_nil, List.getElem?_cons_zero, List.getElem?_cons_succ, List.set_cons_zero, List.set_cons_succ, Nat.reduceSub, Nat.reduceAdd, Nat.reduceLeDiff, wipeD, if_true, if_false, Bool.false_eq_true, dTru, dB, Bool.not_true, Bool.not_false, ey]
    split at h
    · rename_i b'
      cases b' with
      | true => rw [if_pos rfl] at h; cases h; rfl
      | false => rw [if_neg Bool.false_ne_true] at h; exact anyU_of ds h
    · cases h
theorem lot_ok {off : Nat} {x0 x1 x2 x3 x4 x5 : Option (Bool × DV)} {arms : List (NestedKey × PyData)} {B : AD} (RB : RD (fW vs off) l arms B) {used : PyData} {c : List Nat} {C : LL} (hoff : off + l ≤ 1000) (hC : ∀ x ∈ C, x.length = off) (hc : c ∈ C) (hb : ∀ x ∈ C, fW vs 0 x ≤ fW vs 0 c)
    {q : NestedKey × LL} {env : DE} {A A' : AD} (r : ∃ kvs, env = eLot x0 x1 x2 x3 x4 x5 used (fW vs 0) c arms kvs none ∧ RD (fW vs 0) (off + l) kvs A) (e : aLot B used C A q = some A') :
    ∃ e1 env', gtN 11 q.1.data env = some e1 ∧ gLot e1 = some (.nx env') ∧ ∃ kvs, env' = eLot x0 x1 x2 x3 x4 x5 used (fW vs 0) c arms kvs none ∧ RD (fW vs 0) (off + l) kvs A' := by
  obtain ⟨kvs, rfl, R⟩ := r
  unfold aLot at e
  split at e
  · rename_i lot ed
    obtain ⟨b, eb, e⟩ := Option.bind_eq_some_iff.mp e
    have hcl := hC c hc
    have any : FDG.eAny true [14] (iSeq (eVar 11)) (gtN 14) (e2 (dIn false) (eVar 14) (eVar 6)) (eLot x0 x1 x2 x3 x4 x5 used (fW vs 0) c arms kvs (some (false, .dat (.tuple lot)))) = some (dB b) := by
      unfold FDG.eAny eLot
      simp only [fnF, startD, sSeq, sNil, sRet, sIf, sSet, sExpr, sTup, sPar, sPar3, sFrz, sRetO, sFor, sNever, sClr, FD.e1, FD.e2, FD.e3, eVar, eRd, eC, eCall, aCons, aNil, eAnd, eOr, eNot, eIf, eTru, tNotF, tAndF, tOrF, eTupL, eLstL, lCons, lNil, lStar, eSl, pN, pS, iSeq, iKeys, iEnum, items, setAll, gtN, gtT, Option.bind_some, Option.map_some, Option.bind_none, Option.map_none, List.map_cons, List.map_nil, List.length_cons, List.length_nil, List.replicate, List.nil_append, List.cons_append, List.append_nil, List.getElem?_cons_zero, List.getElem?_cons_succ, List.set_cons_zero, List.set_cons_succ, Nat.reduceSub, Nat.reduceAdd, Nat.reduceLeDiff, wipeD, if_true, if_false, Bool.false_eq_true, dTru, dB, Bool.not_true, Bool.not_false]
      rw [anyU_of lot eb]
      rfl
    have any2 : tNotF (eTru (FDG.eAny true [14] (iSeq (eVar 11)) (gtN 14) (e2 (dIn false) (eVar 14) (eVar 6)))) (eLot x0 x1 x2 x3 x4 x5 used (fW vs 0) c arms kvs (some (false, .dat (.tuple lot)))) = some (!b) := by
      unfold tNotF eTru
      rw [any]; rfl
    cases b with
    | true =>
      rw [if_pos rfl] at e
      cases e
      refine ⟨_, _, by rw [ed]; rfl, ?_, kvs, rfl, R⟩
      refine sClr_nx (e := eLot x0 x1 x2 x3 x4 x5 used (fW vs 0) c arms kvs (some (false, .dat (.tuple lot)))) ?_
      rw [sSeq_nx (e := eLot x0 x1 x2 x3 x4 x5 used (fW vs 0) c arms kvs (some (false, .dat (.tuple lot))))]
      · rfl
      · show sIf _ _ _ (eLot x0 x1 x2 x3 x4 x5 used (fW vs 0) c arms kvs (some (false, .dat (.tuple lot)))) = _
        unfold sIf
        rw [any2]; rfl
    | false =>
      rw [if_neg Bool.false_ne_true] at e
      obtain ⟨t, et, e⟩ := Option.bind_eq_some_iff.mp e
      split at e
      · rename_i t
        obtain ⟨key, ek, e⟩ := Option.bind_eq_some_iff.mp e
        obtain ⟨kl, ekl, e⟩ := Option.bind_eq_some_iff.mp e
        obtain ⟨E, eE, e⟩ := Option.bind_eq_some_iff.mp e
        split at e
        · rename_i hlen
          cases e
          obtain ⟨d, fd, hE, m, hm, rfl, hbE⟩ := RB.find eE
          unfold aThr2 at et
          simp only [fnF, startD, sSeq, sNil, sRet, sIf, sSet, sExpr, sTup, sPar, sPar3, sFrz, sRetO, sFor, sNever, sClr, FD.e1, FD.e2, FD.e3, eVar, eRd, eC, eCall, aCons, aNil, eAnd, eOr, eNot, eIf, eTru, tNotF, tAndF, tOrF, eTupL, eLstL, lCons, lNil, lStar, eSl, pN, pS, iSeq, iKeys, iEnum, items, setAll, gtN, gtT, Option.bind_some, Option.map_some, Option.bind_none, Option.map_none, List.map_cons, List.map_nil, List.length_cons, List.length_nil, List.replicate, List.nil_append, List.cons_append, List.append_nil, List.getElem?_cons_zero, List.getElem?_cons_succ, List.set_cons_zero, List.set_cons_succ, Nat.reduceSub, Nat.reduceAdd, Nat.reduceLeDiff, wipeD, if_true, if_false, Bool.false_eq_true, dTru, dB, Bool.not_true, Bool.not_false] at et
          have hk := R.len
          have hml := hE m hm
          have part : (PyData.tuple [.int (fW vs 0 c + fW vs off m), .tuple (c.map iD ++ m.map iD)]) = pT (fW vs 0) (c ++ m) := by
            unfold pT partD tuN
            rw [fW_app, hcl, List.map_append, Nat.zero_add]
          have h1 : ∀ x ∈ (C.flatMap fun c => E.map fun e => c ++ e), x.length = off + l := fun x hx => by
            obtain ⟨y, hy, hx⟩ := List.mem_flatMap.mp hx
            obtain ⟨z, hz, rfl⟩ := List.mem_map.mp hx
            rw [List.length_append, hC y hy, hE z hz]
          have g1 : ∀ x ∈ (C.flatMap fun c => E.map fun e => c ++ e), fW vs 0 x ≤ fW vs 0 (c ++ m) := fun x hx => by
            obtain ⟨y, hy, hx⟩ := List.mem_flatMap.mp hx
            obtain ⟨z, hz, rfl⟩ := List.mem_map.mp hx
            rw [fW_app, fW_app, hC y hy, hcl, Nat.zero_add]
            have := hb y hy
            have := hbE z hz
            omega
          have hm' : c ++ m ∈ (C.flatMap fun c => E.map fun e => c ++ e) := List.mem_flatMap.mpr ⟨c, hc, List.mem_map.mpr ⟨m, hm, rfl⟩⟩
          have hl2 : (c.map iD ++ m.map iD).length ≤ 100000 := by rw [List.length_append, List.length_map, List.length_map, hcl, hml]; omega
          have keyL : dGet (.dct arms) (.dat (.tuple lot)) = some (.dat (.tuple [.int (fW vs off m), .tuple (m.map iD)])) := by
            show (keyT (.dat (.tuple lot))).bind _ = _
            rw [ekl, Option.bind_some, fd, Option.map_some]; rfl
          have keyIn : dIn true (.dat t) (.dct kvs) = some (dB (!(dFind kvs key).isSome)) := by
            show (keyT (.dat t)).map _ = _
            rw [ek, Option.map_some]; simp
          have keyGet : dGet (.dct kvs) (.dat t) = (dFind kvs key).map .dat := by
            show (keyT (.dat t)).bind _ = _
            rw [ek, Option.bind_some]
          have start : ∀ kvs', sSeq (sSet false 12 (e1 dTuple (e1 dSorted (eLstL (lStar (eVar 6) (lStar (eVar 11) lNil)))))) (sSeq (sSet false 13 (eTupL (lCons (e2 dAdd (eVar 7) (e2 dIx (e2 dGet (eVar 9) (eVar 11)) (eC (.int 0)))) (lCons (eTupL (lStar (eVar 8) (lStar (e2 dIx (e2 dGet (eVar 9) (eVar 11)) (eC (.int 1))) lNil))) lNil)))) (sSeq (sIf (tOrF (eTru (e2 (dIn true) (eVar 12) (eRd 10))) (eTru (e2 dGt (eVar 13) (e2 dGet (eRd 10) (eVar 12))))) (sSeq (sPut 10 (eVar 13) (eVar 12)) sNil) sNil) sNil)) (eLot x0 x1 x2 x3 x4 x5 used (fW vs 0) c arms kvs (some (false, .dat (.tuple lot)))) = some (.nx ((eLot x0 x1 x2 x3 x4 x5 used (fW vs 0) c arms kvs' (some (false, .dat (.tuple lot)))).set 12 (some (false, .dat t)) |>.set 13 (some (false, .dat (pT (fW vs 0) (c ++ m)))))) →
              gLot (eLot x0 x1 x2 x3 x4 x5 used (fW vs 0) c arms kvs (some (false, .dat (.tuple lot)))) = some (.nx (eLot x0 x1 x2 x3 x4 x5 used (fW vs 0) c arms kvs' none)) := by
            intro kvs' h
            refine sClr_nx (e := ((eLot x0 x1 x2 x3 x4 x5 used (fW vs 0) c arms kvs' (some (false, .dat (.tuple lot)))).set 12 (some (false, .dat t)) |>.set 13 (some (false, .dat (pT (fW vs 0) (c ++ m)))))) ?_
            rw [sSeq_nx (e := ((eLot x0 x1 x2 x3 x4 x5 used (fW vs 0) c arms kvs' (some (false, .dat (.tuple lot)))).set 12 (some (false, .dat t)) |>.set 13 (some (false, .dat (pT (fW vs 0) (c ++ m))))))]
            · rfl
            · unfold sIf
              rw [any2, Option.bind_some, Bool.not_false, if_pos rfl]
              exact h
          have go : ∃ kvs', gLot (eLot x0 x1 x2 x3 x4 x5 used (fW vs 0) c arms kvs (some (false, .dat (.tuple lot)))) = some (.nx (eLot x0 x1 x2 x3 x4 x5 used (fW vs 0) c arms kvs' none)) ∧ RD (fW vs 0) (off + l) kvs' (aAdd A key (C.flatMap fun c => E.map fun e => c ++ e)) := by
            rcases R.at' key with ⟨f1, f2⟩ | ⟨d, C0, f1, f2, C0l, c0, hc0, rfl, g0⟩
            · refine ⟨dPut kvs key (pT (fW vs 0) (c ++ m)), start _ ?_, R.put ?_⟩
              · unfold eLot
                simp only [fnF, startD, sSeq, sNil, sRet, sIf, sSet, sExpr, sTup, sPar, sPar3, sFrz, sRetO, sFor, sNever, sClr, FD.e1, FD.e2, FD.e3, eVar, eRd, eC, eCall, aCons, aNil, eAnd, eOr, eNot, eIf, eTru, tNotF, tAndF, tOrF, eTupL, eLstL, lCons, lNil, lStar, eSl, pN, pS, iSeq, iKeys, iEnum, items, setAll, gtN, gtT, Option.bind_some, Option.map_some, Option.bind_none, Option.map_none, List.map_cons, List.map_nil, List.length_cons, List.length_nil, List.replicate, List.nil_append, List.cons_append, List.append_nil, List.getElem?_cons_zero, List.getElem?_cons_succ, List.set_cons_zero, List.set_cons_succ, Nat.reduceSub, Nat.reduceAdd, Nat.reduceLeDiff, wipeD, if_true, if_false, Bool.false_eq_true, dTru, dB, Bool.not_true, Bool.not_false]
                rw [et]
                simp only [fnF, startD, sSeq, sNil, sRet, sIf, sSet, sExpr, sTup, sPar, sPar3, sFrz, sRetO, sFor, sNever, sClr, FD.e1, FD.e2, FD.e3, eVar, eRd, eC, eCall, aCons, aNil, eAnd, eOr, eNot, eIf, eTru, tNotF, tAndF, tOrF, eTupL, eLstL, lCons, lNil, lStar, eSl, pN, pS, iSeq, iKeys, iEnum, items, setAll, gtN, gtT, Option.bind_some, Option.map_some, Option.bind_none, Option.map_none, List.map_cons, List.map_nil, List.length_cons, List.length_nil, List.replicate, List.nil_append, List.cons_append, List.append_nil, List.getElem?_cons_zero, List.getElem?_cons_succ, List.set_cons_zero, List.set_cons_succ, Nat.reduceSub, Nat.reduceAdd, Nat.reduceLeDiff, wipeD, if_true, if_false, Bool.false_eq_true, dTru, dB, Bool.not_true, Bool.not_false, keyL, ix0, ix1, add_int, tuN, if_pos hl2, part, keyIn, f1, Option.isSome_none, sPut, ek]
                rw [if_pos (by omega)]
                rfl
              · rw [f2]
                exact ⟨h1, _, hm', rfl, g1⟩
            · obtain ⟨b, q1, q2, q3⟩ := gt_pT (f := fW vs 0) (c ++ m) c0
              have q1' : dGt (.dat (pT (fW vs 0) (c ++ m))) (.dat (partD (fW vs 0 c0, tuN c0))) = some (dB b) := q1
              cases b with
              | true =>
                refine ⟨dPut kvs key (pT (fW vs 0) (c ++ m)), start _ ?_, R.put ?_⟩
                · unfold eLot
                  simp only [fnF, startD, sSeq, sNil, sRet, sIf, sSet, sExpr, sTup, sPar, sPar3, sFrz, sRetO, sFor, sNever, sClr, FD.e1, FD.e2, FD.e3, eVar, eRd, eC, eCall, aCons, aNil, eAnd, eOr, eNot, eIf, eTru, tNotF, tAndF, tOrF, eTupL, eLstL, lCons, lNil, lStar, eSl, pN, pS, iSeq, iKeys, iEnum, items, setAll, gtN, gtT, Option.bind_some, Option.map_some, Option.bind_none, Option.map_none, List.map_cons, List.map_nil, List.length_cons, List.length_nil, List.replicate, List.nil_append, List.cons_append, List.append_nil, List.getElem?_cons_zero, List.getElem?_cons_succ, List.set_cons_zero, List.set_cons_succ, Nat.reduceSub, Nat.reduceAdd, Nat.reduceLeDiff, wipeD, if_true, if_false, Bool.false_eq_true, dTru, dB, Bool.not_true, Bool.not_false]
                  rw [et]
                  simp only [fnF, startD, sSeq, sNil, sRet, sIf, sSet, sExpr, sTup, sPar, sPar3, sFrz, sRetO, sFor, sNever, sClr, FD.e1, FD.e2, FD.e3, eVar, eRd, eC, eCall, aCons, aNil, eAnd, eOr, eNot, eIf, eTru, tNotF, tAndF, tOrF, eTupL, eLstL, lCons, lNil, lStar, eSl, pN, pS, iSeq, iKeys, iEnum, items, setAll, gtN, gtT, Option.bind_some, Option.map_some, Option.bind_none, Option.map_none, List.map_cons, List.map_nil, List.length_cons, List.length_nil, List.replicate, List.nil_append, List.cons_append, List.append_nil, List.getElem?_cons_zero, List.getElem?_cons_succ, List.set_cons_zero, List.set_cons_succ, Nat.reduceSub, Nat.reduceAdd, Nat.reduceLeDiff, wipeD, if_true, if_false, Bool.false_eq_true, dTru, dB, Bool.not_true, Bool.not_false, keyL, ix0, ix1, add_int, tuN, if_pos hl2, part, keyIn, keyGet, f1, Option.isSome_some] at q1' ⊢
                  rw [q1']
                  simp only [fnF, startD, sSeq, sNil, sRet, sIf, sSet, sExpr, sTup, sPar, sPar3, sFrz, sRetO, sFor, sNever, sClr, FD.e1, FD.e2, FD.e3, eVar, eRd, eC, eCall, aCons, aNil, eAnd, eOr, eNot, eIf, eTru, tNotF, tAndF, tOrF, eTupL, eLstL, lCons, lNil, lStar, eSl, pN, pS, iSeq, iKeys, iEnum, items, setAll, gtN, gtT, Option.bind_some, Option.map_some, Option.bind_none, Option.map_none, List.map_cons, List.map_nil, List.length_cons, List.length_nil, List.replicate, List.nil_append, List.cons_append, List.append_nil, List.getElem?_cons_zero, List.getElem?_cons_succ, List.set_cons_zero, List.set_cons_succ, Nat.reduceSub, Nat.reduceAdd, Nat.reduceLeDiff, wipeD, if_true, if_false, Bool.false_eq_true, dTru, dB, Bool.not_true, Bool.not_false, sPut, ek]
                  rw [if_pos (by omega)]
                  rfl
                · rw [f2]
                  exact Bs.app C0l h1 g0 g1 (List.mem_append_right _ hm') (q2 rfl) (Int.le_refl _)
              | false =>
                refine ⟨kvs, start _ ?_, R.skip f2 f1 ?_⟩
                · unfold eLot
                  simp only [fnF, startD, sSeq, sNil, sRet, sIf, sSet, sExpr, sTup, sPar, sPar3, sFrz, sRetO, sFor, sNever, sClr, FD.e1, FD.e2, FD.e3, eVar, eRd, eC, eCall, aCons, aNil, eAnd, eOr, eNot, eIf, eTru, tNotF, tAndF, tOrF, eTupL, eLstL, lCons, lNil, lStar, eSl, pN, pS, iSeq, iKeys, iEnum, items, setAll, gtN, gtT, Option.bind_some, Option.map_some, Option.bind_none, Option.map_none, List.map_cons, List.map_nil, List.length_cons, List.length_nil, List.replicate, List.nil_append, List.cons_append, List.append_nil, List.getElem?_cons_zero, List.getElem?_cons_succ, List.set_cons_zero, List.set_cons_succ, Nat.reduceSub, Nat.reduceAdd, Nat.reduceLeDiff, wipeD, if_true, if_false, Bool.false_eq_true, dTru, dB, Bool.not_true, Bool.not_false]
                  rw [et]
                  simp only [fnF, startD, sSeq, sNil, sRet, sIf, sSet, sExpr, sTup, sPar, sPar3, sFrz, sRetO, sFor, sNever, sClr, FD.e1, FD.e2, FD.e3, eVar, eRd, eC, eCall, aCons, aNil, eAnd, eOr, eNot, eIf, eTru, tNotF, tAndF, tOrF, eTupL, eLstL, lCons, lNil, lStar, eSl, pN, pS, iSeq, iKeys, iEnum, items, setAll, gtN, gtT, Option.bind_some, Option.map_some, Option.bind_none, Option.map_none, List.map_cons, List.map_nil, List.length_cons, List.length_nil, List.replicate, List.nil_append, List.cons_append, List.append_nil, List.getElem?_cons_zero, List.getElem?_cons_succ, List.set_cons_zero, List.set_cons_succ, Nat.reduceSub, Nat.reduceAdd, Nat.reduceLeDiff, wipeD, if_true, if_false, Bool.false_eq_true, dTru, dB, Bool.not_true, Bool.not_false, keyL, ix0, ix1, add_int, tuN, if_pos hl2, part, keyIn, keyGet, f1, Option.isSome_some] at q1' ⊢
                  rw [q1']
                  simp only [fnF, startD, sSeq, sNil, sRet, sIf, sSet, sExpr, sTup, sPar, sPar3, sFrz, sRetO, sFor, sNever, sClr, FD.e1, FD.e2, FD.e3, eVar, eRd, eC, eCall, aCons, aNil, eAnd, eOr, eNot, eIf, eTru, tNotF, tAndF, tOrF, eTupL, eLstL, lCons, lNil, lStar, eSl, pN, pS, iSeq, iKeys, iEnum, items, setAll, gtN, gtT, Option.bind_some, Option.map_some, Option.bind_none, Option.map_none, List.map_cons, List.map_nil, List.length_cons, List.length_nil, List.replicate, List.nil_append, List.cons_append, List.append_nil, List.getElem?_cons_zero, List.getElem?_cons_succ, List.set_cons_zero, List.set_cons_succ, Nat.reduceSub, Nat.reduceAdd, Nat.reduceLeDiff, wipeD, if_true, if_false, Bool.false_eq_true, dTru, dB, Bool.not_true, Bool.not_false]
                · exact Bs.app C0l h1 g0 g1 (List.mem_append_left _ hc0) (Int.le_refl _) (q3 rfl)
          obtain ⟨kvs', z1, z2⟩ := go
          exact ⟨_, _, by rw [ed]; rfl, z1, kvs', rfl, z2⟩
        · cases e
      · cases e
  · cases e
end K08
end

section
set_option Elab.async false
set_option linter.all false
set_option maxRecDepth 100000
set_option maxHeartbeats 4000000
/-! M15: the best for a hub, whole. -/
namespace K08
open PySem FD
variable {a l k n : Nat} {vs : List (List Int)}
def aUsed (arms found more : AD) (p : NestedKey × LL) : Option AD := (keyT (.dat p.1.data)).bind fun key => (aFind found key).bind fun C => foldO (aLot arms p.1.data C) more arms
def gUsed : DE → Option Out := (sClr [6, 11, 7, 8, 12, 13] (sSeq (sTup [7, 8] (e2 dGet (eVar 4) (eVar 6))) (sSeq (sFor (iKeys (eVar 9)) (gtN 11) gLot) sNil)))
def eUsed (x0 x1 x2 x3 : Option (Bool × DV)) (found : List (NestedKey × PyData)) (x5 : Option (Bool × DV)) (arms kvs : List (NestedKey × PyData)) (x6 : Option (Bool × DV)) : DE :=
  [x0, x1, x2, x3, some (false, .dct found), x5, x6, none, none, some (false, .dct arms), some (true, .dct kvs), none, none, none, none]
theorem used_ok {off : Nat} {x0 x1 x2 x3 x5 : Option (Bool × DV)} {arms found : List (NestedKey × PyData)} {B F : AD} (RB : RD (fW vs off) l arms B) (RF : RD (fW vs 0) off found F) (hoff : off + l ≤ 1000)
    {p : NestedKey × LL} {env : DE} {A A' : AD} (r : ∃ kvs, env = eUsed x0 x1 x2 x3 found x5 arms kvs none ∧ RD (fW vs 0) (off + l) kvs A) (e : aUsed B F A p = some A') :
    ∃ e1 env', gtN 6 p.1.data env = some e1 ∧ gUsed e1 = some (.nx env') ∧ ∃ kvs, env' = eUsed x0 x1 x2 x3 found x5 arms kvs none ∧ RD (fW vs 0) (off + l) kvs A' := by
  obtain ⟨kvs, rfl, R⟩ := r
  unfold aUsed at e
  obtain ⟨key, ek, e⟩ := Option.bind_eq_some_iff.mp e
  obtain ⟨C, eC, e⟩ := Option.bind_eq_some_iff.mp e
  obtain ⟨d, fd, hC, c, hc, rfl, hb⟩ := RF.find eC
  obtain ⟨env2, h1, kvs2, rfl, R2⟩ := forGo_relO (f := fun q : NestedKey × LL => q.1.data) (gt := gtN 11) (body := gLot) (R := fun env A => ∃ kvs, env = eLot x0 x1 x2 x3 (some (false, .dct found)) x5 p.1.data (fW vs 0) c arms kvs none ∧ RD (fW vs 0) (off + l) kvs A)
    (fun q hq env A A' r e => lot_ok RB hoff hC hc hb r e) ⟨kvs, rfl, R⟩ e
  refine ⟨_, _, rfl, ?_, kvs2, rfl, R2⟩
  have keyGet : dGet (.dct found) (.dat p.1.data) = some (.dat (.tuple [.int (fW vs 0 c), tuN c])) := by
    show (keyT (.dat p.1.data)).bind _ = _
    rw [ek, Option.bind_some, fd, Option.map_some]; rfl
  have hr : iKeys (eVar 9) (eLot x0 x1 x2 x3 (some (false, .dct found)) x5 p.1.data (fW vs 0) c arms kvs none) = some (B.map fun q => q.1.data) := by
    rw [← keys_data RB]; rfl
  have s1 : sTup [7, 8] (e2 dGet (eVar 4) (eVar 6)) (eUsed x0 x1 x2 x3 found x5 arms kvs (some (false, .dat p.1.data))) = some (.nx (eLot x0 x1 x2 x3 (some (false, .dct found)) x5 p.1.data (fW vs 0) c arms kvs none)) := by
    unfold eUsed
    simp only [fnF, startD, sSeq, sNil, sRet, sIf, sSet, sExpr, sTup, sPar, sPar3, sFrz, sRetO, sFor, sNever, sClr, FD.e1, FD.e2, FD.e3, eVar, eRd, eC, eCall, aCons, aNil, eAnd, eOr, eNot, eIf, eTru, tNotF, tAndF, tOrF, eTupL, eLstL, lCons, lNil, lStar, eSl, pN, pS, iSeq, iKeys, iEnum, items, setAll, gtN, gtT, Option.bind_some, Option.map_some, Option.bind_none, Option.map_none, List.map_cons, List.map_nil, List.length_cons, List.length_nil, List.replicate, List.nil_append, List.cons_append, List.append_nil, List.getElem?_cons_zero, List.getElem?_cons_succ, List.set_cons_zero, List.set_cons_succ, Nat.reduceSub, Nat.reduceAdd, Nat.reduceLeDiff, wipeD, if_true, if_false, Bool.false_eq_true, dTru, dB, Bool.not_true, Bool.not_false, keyGet]
    rfl
  refine sClr_nx (e := eLot x0 x1 x2 x3 (some (false, .dct found)) x5 p.1.data (fW vs 0) c arms kvs2 none) (g := sSeq (sTup [7, 8] (e2 dGet (eVar 4) (eVar 6))) (sSeq (sFor (iKeys (eVar 9)) (gtN 11) gLot) sNil)) (vs := [6, 11, 7, 8, 12, 13]) (env := eUsed x0 x1 x2 x3 found x5 arms kvs (some (false, .dat p.1.data))) ?_
  rw [sSeq_nx s1, sSeq_nx (e := eLot x0 x1 x2 x3 (some (false, .dct found)) x5 p.1.data (fW vs 0) c arms kvs2 none) (by rw [← h1]; exact sFor_of hr)]
  rfl
def aArm (B : AD) (st : Nat × AD) (i : Nat) : Option (Nat × AD) := if i = st.1 then (foldO (aUsed B st.2) [] st.2).map fun A => (st.1 + 1, A) else none
def gArm : DE → Option Out := (sClr [5, 6, 9, 10, 11, 7, 8, 12, 13] (sSeq (sPar false 9 true 10 (aCons (eCall F_arm_bests (aCons (eVar 0) (aCons (eVar 1) (aCons (eVar 2) (aCons (eVar 3) (aCons (eVar 5) aNil)))))) (aCons eDct0 aNil))) (sSeq (sFor (iKeys (eVar 4)) (gtN 6) gUsed) (sSeq (sFrz 4 10) sNil))))
def eHub (a l : Nat) (vs : List (List Int)) (hub : Nat) (found : List (NestedKey × PyData)) (x5 x9 x10 : Option (Bool × DV)) : DE :=
  [some (false, .dat (iD a)), some (false, .dat (iD l)), some (false, valsD vs), some (false, .dat (iD hub)), some (false, .dct found), x5, none, none, none, x9, x10, none, none, none, none]
theorem eCall_of {F : List DV → Option DV} {fa : DE → Option (List DV)} {env : DE} {xs : List DV} {x : DV} (h1 : fa env = some xs) (h2 : F xs = some x) : eCall F fa env = some x := by unfold eCall; rw [h1, Option.bind_some, h2]
theorem aCons_of {f : DE → Option DV} {r : DE → Option (List DV)} {env : DE} {x : DV} {xs : List DV} (h1 : f env = some x) (h2 : r env = some xs) : aCons f r env = some (x :: xs) := by unfold aCons; rw [h1, Option.bind_some, h2, Option.map_some]
theorem sPar_of {b1 b2 : Bool} {i j : Nat} {fa : DE → Option (List DV)} {env : DE} {x y : DV} (h : fa env = some [x, y]) : sPar b1 i b2 j fa env = some (.nx ((env.set i (some (b1, x))).set j (some (b2, y)))) := by unfold sPar; rw [h, Option.bind_some]
theorem hubArm_ok (V : VOk9 k n vs) (hk : k ≤ 1000) (ha : a ≤ 10) (hl : l ≤ 10) (hn : a * l + 1 ≤ n) {hub : Nat} {B : AD} (eB : armA k l hub = some B)
    {i : Nat} (hi : i < a) {env : DE} {st st' : Nat × AD} (r : ∃ kvs, env = eHub a l vs hub kvs none none none ∧ RD (fW vs 0) (1 + st.1 * l) kvs st.2) (e : aArm B st i = some st') :
    ∃ e1 env', gtN 5 (iD i) env = some e1 ∧ gArm e1 = some (.nx env') ∧ ∃ kvs, env' = eHub a l vs hub kvs none none none ∧ RD (fW vs 0) (1 + st'.1 * l) kvs st'.2 := by
  obtain ⟨found, rfl, R⟩ := r
  unfold aArm at e
  split at e
  · rename_i hs
    obtain ⟨A', eA, rfl⟩ := Option.map_eq_some_iff.mp e
    have hil : i * l + l ≤ a * l := by rw [← Nat.succ_mul]; exact Nat.mul_le_mul_right l hi
    have hal : a * l ≤ 100 := Nat.mul_le_mul ha hl
    obtain ⟨arms, h0, RB⟩ := arm_ok (a := a) V hk (by omega) (arm := i) (by omega) (by omega) eB
    subst hs
    obtain ⟨env2, h1, kvs2, rfl, R2⟩ := forGo_relO (f := fun p : NestedKey × LL => p.1.data) (gt := gtN 6) (body := gUsed) (R := fun env A => ∃ kvs, env = eUsed (some (false, .dat (iD a))) (some (false, .dat (iD l))) (some (false, valsD vs)) (some (false, .dat (iD hub))) found (some (false, .dat (iD st.1))) arms kvs none ∧ RD (fW vs 0) (1 + st.1 * l + l) kvs A)
      (fun p hp env A A' r e => used_ok RB R (by omega) r e) ⟨[], rfl, RD.nil⟩ eA
    have hr : iKeys (eVar 4) (eUsed (some (false, .dat (iD a))) (some (false, .dat (iD l))) (some (false, valsD vs)) (some (false, .dat (iD hub))) found (some (false, .dat (iD st.1))) arms [] none) = some (st.2.map fun p => p.1.data) := by
      rw [← keys_data R]; rfl
    have s1 : sPar false 9 true 10 (aCons (eCall F_arm_bests (aCons (eVar 0) (aCons (eVar 1) (aCons (eVar 2) (aCons (eVar 3) (aCons (eVar 5) aNil)))))) (aCons eDct0 aNil)) (eHub a l vs hub found (some (false, .dat (iD st.1))) none none) = some (.nx (eUsed (some (false, .dat (iD a))) (some (false, .dat (iD l))) (some (false, valsD vs)) (some (false, .dat (iD hub))) found (some (false, .dat (iD st.1))) arms [] none)) := by
      exact sPar_of (aCons_of (eCall_of (xs := [.dat (iD a), .dat (iD l), valsD vs, .dat (iD hub), .dat (iD st.1)]) rfl h0) (aCons_of (f := eDct0) (x := .dct []) rfl rfl))
    refine ⟨_, _, rfl, ?_, kvs2, rfl, ?_⟩
    · refine sClr_nx (g := sSeq (sPar false 9 true 10 (aCons (eCall F_arm_bests (aCons (eVar 0) (aCons (eVar 1) (aCons (eVar 2) (aCons (eVar 3) (aCons (eVar 5) aNil)))))) (aCons eDct0 aNil))) (sSeq (sFor (iKeys (eVar 4)) (gtN 6) gUsed) (sSeq (sFrz 4 10) sNil))) (vs := [5, 6, 9, 10, 11, 7, 8, 12, 13]) (env := eHub a l vs hub found (some (false, .dat (iD st.1))) none none)
        (e := [some (false, .dat (iD a)), some (false, .dat (iD l)), some (false, valsD vs), some (false, .dat (iD hub)), some (false, .dct kvs2), some (false, .dat (iD st.1)), none, none, none, some (false, .dct arms), some (false, .dct kvs2), none, none, none, none]) ?_
      rw [sSeq_nx s1, sSeq_nx (e := eUsed (some (false, .dat (iD a))) (some (false, .dat (iD l))) (some (false, valsD vs)) (some (false, .dat (iD hub))) found (some (false, .dat (iD st.1))) arms kvs2 none) (by rw [← h1]; exact sFor_of hr)]
      rfl
    · have : 1 + (st.1 + 1) * l = 1 + st.1 * l + l := by rw [Nat.succ_mul]; omega
      show RD (fW vs 0) (1 + (st.1 + 1) * l) kvs2 A'
      rw [this]; exact R2
  · cases e
end K08
end

section
set_option Elab.async false
set_option linter.all false
set_option maxRecDepth 100000
set_option maxHeartbeats 4000000
/-! M16: the best for a hub. -/
namespace K08
open PySem FD
variable {a l k n : Nat} {vs : List (List Int)}
def othersN (k hub : Nat) : List Nat := (List.range k).filter fun x => decide (x ≠ hub)
def hubA (k l a hub : Nat) : Option LL := (armA k l hub).bind fun B => (foldO (aArm B) (0, [(tuK [], [[hub]])]) (List.range a)).bind fun st => if st.1 = a then aFind st.2 (tuK (othersN k hub)) else none
theorem sTup_of {is : List Nat} {f : DE → Option DV} {env : DE} {ds : List PyData} (h : f env = some (.dat (.tuple ds))) (hl : ds.length = is.length) : sTup is f env = some (.nx (setAll env is ds)) := by unfold sTup; rw [h, Option.bind_some]; exact if_pos hl
theorem sRet_of {f : DE → Option DV} {env : DE} {x : DV} (h : f env = some x) : sRet f env = some (.rt x) := by unfold sRet; rw [h, Option.map_some]
theorem sSeq_rt {g1 g2 : DE → Option Out} {env : DE} {x : DV} (h : g1 env = some (.rt x)) : sSeq g1 g2 env = some (.rt x) := by unfold sSeq; rw [h, Option.bind_some]
theorem fnF_rt {n : Nat} {g : DE → Option Out} {xs : List DV} {x : DV} (h : g (startD n xs) = some (.rt x)) : fnF n g xs = some x := by unfold fnF; rw [h, Option.map_some]
theorem e1_of {g : DV → Option DV} {f : DE → Option DV} {env : DE} {x y : DV} (h1 : f env = some x) (h2 : g x = some y) : e1 g f env = some y := by unfold e1; rw [h1, Option.bind_some, h2]
def pH (hub : Nat) : PyData → Bool
  | .int i => decide (i ≠ (hub : Int))
  | _ => false
theorem pH_filter (k hub : Nat) : ((List.range k).map iD).filter (pH hub) = (othersN k hub).map iD := by
  rw [List.filter_map]
  unfold othersN
  refine congrArg (List.map iD) (List.filter_congr fun x _ => ?_)
  show decide ((x : Int) ≠ (hub : Int)) = decide (x ≠ hub)
  exact decide_eq_decide.mpr (by omega)
theorem others_lc {a l : Nat} {vs : List (List Int)} {hub : Nat} {found : List (NestedKey × PyData)} (V : VOk9 k n vs) (hk : k ≤ 1000) : eLc [14] (iRange (e1 dLen (eVar 2))) (gtN 14) (eTru (e2 dNe (eVar 14) (eVar 3))) (eVar 14) (eHub a l vs hub found none none none) = some (.dat (.list ((othersN k hub).map iD))) := by
  have hr : iRange (e1 dLen (eVar 2)) (eHub a l vs hub found none none none) = some ((List.range k).map iD) := iRange_val (by
    show dLen (valsD vs) = _
    rw [dLen_vals, V.len]; rfl) (Nat.le_trans hk (by decide))
  have hlen : ((List.range k).map iD).length ≤ 100000 := by
    rw [List.length_map, List.length_range]
    exact Nat.le_trans hk (by decide)
  rw [eLc_filter (pH hub) id hr hlen]
  · rw [List.map_id, pH_filter]
  · intro d hd
    obtain ⟨x, _, rfl⟩ := List.mem_map.mp hd
    unfold eHub
    simp only [fnF, startD, sSeq, sNil, sRet, sIf, sSet, sExpr, sTup, sPar, sPar3, sFrz, sRetO, sFor, sNever, sClr, FD.e1, FD.e2, FD.e3, eVar, eRd, eC, eCall, aCons, aNil, eAnd, eOr, eNot, eIf, eTru, tNotF, tAndF, tOrF, eTupL, eLstL, lCons, lNil, lStar, eSl, pN, pS, iSeq, iKeys, iEnum, items, setAll, gtN, gtT, Option.bind_some, Option.map_some, Option.bind_none, Option.map_none, List.map_cons, List.map_nil, List.length_cons, List.length_nil, List.replicate, List.nil_append, List.cons_append, List.append_nil, List.getElem?_cons_zero, List.getElem?_cons_succ, List.set_cons_zero, List.set_cons_succ, Nat.reduceSub, Nat.reduceAdd, Nat.reduceLeDiff, wipeD, if_true, if_false, Bool.false_eq_true, dTru, dB, Bool.not_true, Bool.not_false, iD, dNe, pH]
    simp
  · intro d hd _
    unfold eHub
    simp only [fnF, startD, sSeq, sNil, sRet, sIf, sSet, sExpr, sTup, sPar, sPar3, sFrz, sRetO, sFor, sNever, sClr, FD.e1, FD.e2, FD.e3, eVar, eRd, eC, eCall, aCons, aNil, eAnd, eOr, eNot, eIf, eTru, tNotF, tAndF, tOrF, eTupL, eLstL, lCons, lNil, lStar, eSl, pN, pS, iSeq, iKeys, iEnum, items, setAll, gtN, gtT, Option.bind_some, Option.map_some, Option.bind_none, Option.map_none, List.map_cons, List.map_nil, List.length_cons, List.length_nil, List.replicate, List.nil_append, List.cons_append, List.append_nil, List.getElem?_cons_zero, List.getElem?_cons_succ, List.set_cons_zero, List.set_cons_succ, Nat.reduceSub, Nat.reduceAdd, Nat.reduceLeDiff, wipeD, if_true, if_false, Bool.false_eq_true, dTru, dB, Bool.not_true, Bool.not_false]
    rfl
theorem hub_ok (V : VOk9 k n vs) (hk : k ≤ 1000) (ha : a ≤ 10) (hl : l ≤ 10) (hn : a * l + 1 ≤ n) {hub : Nat} (hh : hub < k) {C : LL} (e : hubA k l a hub = some C) :
    ∃ m ∈ C, (∀ x ∈ C, wN vs x ≤ wN vs m) ∧ F_best_for_hub [.dat (iD a), .dat (iD l), valsD vs, .dat (iD hub)] = some (.dat (partD (wP vs a m))) := by
  unfold hubA at e
  obtain ⟨B, eB, e⟩ := Option.bind_eq_some_iff.mp e
  obtain ⟨st, es, e⟩ := Option.bind_eq_some_iff.mp e
  split at e
  · rename_i hst
    have R0 : RD (fW vs 0) (1 + 0 * l) [(tuK [], .tuple [.int (atV vs hub 0), tuN [hub]])] [(tuK [], [[hub]])] := by
      refine ⟨rfl, fun k' => ?_⟩
      rw [show dFind [(tuK [], PyData.tuple [.int (atV vs hub 0), tuN [hub]])] k' = aFind [(tuK [], PyData.tuple [.int (atV vs hub 0), tuN [hub]])] k' from rfl, aFind_cons, aFind_cons]
      by_cases h : tuK [] = k'
      · rw [if_pos h, if_pos h]
        refine .inr ⟨_, _, rfl, rfl, by simp, [hub], by simp, ?_, by simp⟩
        unfold partD
        simp [fW]
      · rw [if_neg h, if_neg h]; exact .inl ⟨rfl, rfl⟩
    obtain ⟨env1, h1, found, rfl, R1⟩ := forGo_relO (f := iD) (gt := gtN 5) (body := gArm) (R := fun env st => ∃ kvs, env = eHub a l vs hub kvs none none none ∧ RD (fW vs 0) (1 + st.1 * l) kvs st.2)
      (fun i hi env st st' r e => hubArm_ok V hk ha hl hn eB (List.mem_range.mp hi) r e) ⟨_, rfl, R0⟩ es
    obtain ⟨d, fd, hC, m, hm, rfl, hb⟩ := R1.find e
    refine ⟨m, hm, fun x hx => by rw [wN_fW, wN_fW]; exact hb x hx, ?_⟩
    have hr : iRange (eVar 0) (eHub a l vs hub [(tuK [], .tuple [.int (atV vs hub 0), tuN [hub]])] none none none) = some ((List.range a).map iD) := iRange_val rfl (by omega)
    have hv := dIx_val V hh (i := 0) (by omega)
    have s1 : sSet false 4 (eDct1 (eTupL lNil) (eTupL (lCons (e2 dIx (e2 dIx (eVar 2) (eVar 3)) (eC (.int 0))) (lCons (eTupL (lCons (eVar 3) lNil)) lNil)))) (startD 15 [.dat (iD a), .dat (iD l), valsD vs, .dat (iD hub)]) = some (.nx (eHub a l vs hub [(tuK [], .tuple [.int (atV vs hub 0), tuN [hub]])] none none none)) := by
      have k0 : keyT (.dat (.tuple [])) = some (tuK []) := rfl
      have z0 : (((0 : Nat) : Nat) : Int) = 0 := rfl
      simp only [z0] at hv
      simp only [fnF, startD, sSeq, sNil, sRet, sIf, sSet, sExpr, sTup, sPar, sPar3, sFrz, sRetO, sFor, sNever, sClr, FD.e1, FD.e2, FD.e3, eVar, eRd, eC, eCall, aCons, aNil, eAnd, eOr, eNot, eIf, eTru, tNotF, tAndF, tOrF, eTupL, eLstL, lCons, lNil, lStar, eSl, pN, pS, iSeq, iKeys, iEnum, items, setAll, gtN, gtT, Option.bind_some, Option.map_some, Option.bind_none, Option.map_none, List.map_cons, List.map_nil, List.length_cons, List.length_nil, List.replicate, List.nil_append, List.cons_append, List.append_nil, List.getElem?_cons_zero, List.getElem?_cons_succ, List.set_cons_zero, List.set_cons_succ, Nat.reduceSub, Nat.reduceAdd, Nat.reduceLeDiff, wipeD, if_true, if_false, Bool.false_eq_true, dTru, dB, Bool.not_true, Bool.not_false, eDct1, k0]
      rw [hv]
      simp only [fnF, startD, sSeq, sNil, sRet, sIf, sSet, sExpr, sTup, sPar, sPar3, sFrz, sRetO, sFor, sNever, sClr, FD.e1, FD.e2, FD.e3, eVar, eRd, eC, eCall, aCons, aNil, eAnd, eOr, eNot, eIf, eTru, tNotF, tAndF, tOrF, eTupL, eLstL, lCons, lNil, lStar, eSl, pN, pS, iSeq, iKeys, iEnum, items, setAll, gtN, gtT, Option.bind_some, Option.map_some, Option.bind_none, Option.map_none, List.map_cons, List.map_nil, List.length_cons, List.length_nil, List.replicate, List.nil_append, List.cons_append, List.append_nil, List.getElem?_cons_zero, List.getElem?_cons_succ, List.set_cons_zero, List.set_cons_succ, Nat.reduceSub, Nat.reduceAdd, Nat.reduceLeDiff, wipeD, if_true, if_false, Bool.false_eq_true, dTru, dB, Bool.not_true, Bool.not_false, k0]
      rfl
    have s3 : sTup [7, 8] (e2 dGet (eVar 4) (e1 dTuple (eLc [14] (iRange (e1 dLen (eVar 2))) (gtN 14) (eTru (e2 dNe (eVar 14) (eVar 3))) (eVar 14)))) (eHub a l vs hub found none none none) = some (.nx (setAll (eHub a l vs hub found none none none) [7, 8] [.int (fW vs 0 m), tuN m])) := by
      refine sTup_of (e2_of (x := .dct found) (y := .dat (tuN (othersN k hub))) rfl (e1_of (others_lc V hk) rfl) ?_) rfl
      show (keyT (.dat (tuN (othersN k hub)))).bind _ = _
      rw [keyT_tu, Option.bind_some, fd, Option.map_some]; rfl
    have eg : g_best_for_hub = sSeq (sSet false 4 (eDct1 (eTupL lNil) (eTupL (lCons (e2 dIx (e2 dIx (eVar 2) (eVar 3)) (eC (.int 0))) (lCons (eTupL (lCons (eVar 3) lNil)) lNil))))) (sSeq (sFor (iRange (eVar 0)) (gtN 5) gArm) (sSeq (sTup [7, 8] (e2 dGet (eVar 4) (e1 dTuple (eLc [14] (iRange (e1 dLen (eVar 2))) (gtN 14) (eTru (e2 dNe (eVar 14) (eVar 3))) (eVar 14))))) (sSeq (sRet (eTupL (lCons (eVar 7) (lCons (eTupL (lCons (eVar 0) (lCons (eVar 8) lNil))) lNil)))) sNil))) := rfl
    unfold F_best_for_hub
    refine fnF_rt ?_
    rw [eg, sSeq_nx s1, sSeq_nx (e := eHub a l vs hub found none none none) (by rw [← h1]; exact sFor_of hr), sSeq_nx s3]
    refine sSeq_rt (sRet_of ?_)
    unfold wP partD eHub
    rw [wN_fW]
    simp only [fnF, startD, sSeq, sNil, sRet, sIf, sSet, sExpr, sTup, sPar, sPar3, sFrz, sRetO, sFor, sNever, sClr, FD.e1, FD.e2, FD.e3, eVar, eRd, eC, eCall, aCons, aNil, eAnd, eOr, eNot, eIf, eTru, tNotF, tAndF, tOrF, eTupL, eLstL, lCons, lNil, lStar, eSl, pN, pS, iSeq, iKeys, iEnum, items, setAll, gtN, gtT, Option.bind_some, Option.map_some, Option.bind_none, Option.map_none, List.map_cons, List.map_nil, List.length_cons, List.length_nil, List.replicate, List.nil_append, List.cons_append, List.append_nil, List.getElem?_cons_zero, List.getElem?_cons_succ, List.set_cons_zero, List.set_cons_succ, Nat.reduceSub, Nat.reduceAdd, Nat.reduceLeDiff, wipeD, if_true, if_false, Bool.false_eq_true, dTru, dB, Bool.not_true, Bool.not_false]
    rfl
  · cases e
end K08
end

section
set_option Elab.async false
set_option linter.all false
set_option maxRecDepth 100000
set_option maxHeartbeats 0
/-! MH: the kernel's check of the candidates of each hub. -/
namespace K08
open PySem FD
def chkHub (a l k : Nat) : Bool := (List.range k).all fun hub => match hubA k l a hub with
  | some C => (C.all fun c => (mapsN a l k).any fun x => x == c) && (mapsN a l k).all fun c => !(c.getD 0 0 == hub) || C.any fun x => x == c
  | none => false
theorem hb312 : chkHub 3 1 2 = true := by kernel_rfl
theorem hb412 : chkHub 4 1 2 = true := by kernel_rfl
theorem hb322 : chkHub 3 2 2 = true := by kernel_rfl
theorem hb422 : chkHub 4 2 2 = true := by kernel_rfl
theorem hb323 : chkHub 3 2 3 = true := by kernel_rfl
theorem hb423 : chkHub 4 2 3 = true := by kernel_rfl
/-- what the kernel says of the hubs -/
structure Dom2 (a l k : Nat) : Prop where
  hub : ∀ h, h < k → ∃ C, hubA k l a h = some C ∧ (∀ c ∈ C, c ∈ mapsN a l k) ∧ ∀ c ∈ mapsN a l k, c.getD 0 0 = h → c ∈ C
theorem dom2_of {a l k : Nat} (h : chkHub a l k = true) : Dom2 a l k := by
  refine ⟨fun hub hh => ?_⟩
  have h1 := List.all_eq_true.mp h hub (List.mem_range.mpr hh)
  cases e : hubA k l a hub with
  | none => rw [e] at h1; exact absurd h1 Bool.false_ne_true
  | some C =>
    rw [e] at h1
    have h1 : ((C.all fun c => (mapsN a l k).any fun x => x == c) && (mapsN a l k).all fun c => !(c.getD 0 0 == hub) || C.any fun x => x == c) = true := h1
    rw [Bool.and_eq_true] at h1
    refine ⟨C, rfl, fun c hc => ?_, fun c hc h0 => ?_⟩
    · have := List.all_eq_true.mp h1.1 c hc
      obtain ⟨x, hx, ex⟩ := List.any_eq_true.mp this
      rw [← beq_iff_eq.mp ex]; exact hx
    · have := List.all_eq_true.mp h1.2 c hc
      rw [h0] at this
      rw [beq_self_eq_true, Bool.not_true, Bool.false_or] at this
      obtain ⟨x, hx, ex⟩ := List.any_eq_true.mp this
      rw [← beq_iff_eq.mp ex]; exact hx
end K08
end

section
set_option Elab.async false
set_option linter.all false
set_option maxRecDepth 100000
set_option maxHeartbeats 4000000
/-! M17: the best of all maps; what shows it. -/
namespace K08
open PySem FD
variable {a l k : Nat} {vs : List (List Int)}
theorem best_of_all (D : Dom a l k) (D2 : Dom2 a l k) (V : VOk9 k (a * l + 1) vs) : ∃ m, Bst vs (mapsN a l k) m ∧ F_best_of_all [.dat (iD a), .dat (iD l), valsD vs] = some (.dat (partD (wP vs a m))) := by
  have hk : k ≤ 1000 := by have := D.lk; rcases D.ll with h | h <;> omega
  have ha : a ≤ 10 := by rcases D.la with h | h <;> omega
  have hl : l ≤ 10 := by rcases D.ll with h | h <;> omega
  have key : ∀ h : Nat, ∃ m, h < k → m ∈ mapsN a l k ∧ (∀ c ∈ mapsN a l k, c.getD 0 0 = h → wN vs c ≤ wN vs m) ∧ F_best_for_hub [.dat (iD a), .dat (iD l), valsD vs, .dat (iD h)] = some (.dat (partD (wP vs a m))) := by
    intro h
    by_cases hh : h < k
    · obtain ⟨C, eC, c1, c2⟩ := D2.hub h hh
      obtain ⟨m, hm, g, e⟩ := hub_ok V hk ha hl (Nat.le_refl _) hh eC
      exact ⟨m, fun _ => ⟨c1 m hm, fun c hc e => g c (c2 c hc e), e⟩⟩
    · exact ⟨[], fun z => absurd z hh⟩
  obtain ⟨ms, hms⟩ := Classical.axiomOfChoice key
  have hne : (List.range k).map ms ≠ [] := by
    have := D.lk
    intro z
    have := congrArg List.length z
    rw [List.length_map, List.length_range] at this
    simp at this; omega
  obtain ⟨m, hm, q1, q2⟩ := best_of D hne vs
  obtain ⟨h0, hh0, rfl⟩ := List.mem_map.mp hm
  refine ⟨ms h0, ⟨(hms h0 (List.mem_range.mp hh0)).1, fun c hc => ?_⟩, ?_⟩
  · have C := D.cok c hc
    have hl0 : 0 < c.length := by rw [C.len]; omega
    have h1 : c.getD 0 0 < k := by
      rw [List.getD_eq_getElem?_getD, List.getElem?_eq_getElem hl0]
      exact C.low _ (List.getElem_mem hl0)
    exact Int.le_trans ((hms _ h1).2.1 c hc rfl) (q2 _ (List.mem_map.mpr ⟨_, List.mem_range.mpr h1, rfl⟩))
  · have hr : iRange (e1 dLen (eVar 2)) (startD 4 [.dat (iD a), .dat (iD l), valsD vs]) = some ((List.range k).map iD) := iRange_val (by
      show dLen (valsD vs) = _
      rw [dLen_vals, V.len]; rfl) (Nat.le_trans hk (by decide))
    have lc : eLc [3] (iRange (e1 dLen (eVar 2))) (gtN 3) tYesF (eCall F_best_for_hub (aCons (eVar 0) (aCons (eVar 1) (aCons (eVar 2) (aCons (eVar 3) aNil))))) (startD 4 [.dat (iD a), .dat (iD l), valsD vs]) = some (.dat (.list ((List.range k).map fun h => partD (wP vs a (ms h))))) := by
      refine eLc_mapg (xs := List.range k) iD (fun h => partD (wP vs a (ms h))) hr (by rw [List.length_range]; exact Nat.le_trans hk (by decide)) fun h hh => ?_
      exact eCall_of (xs := [.dat (iD a), .dat (iD l), valsD vs, .dat (iD h)]) rfl (hms h (List.mem_range.mp hh)).2.2
    have q3 : dMax (.dat (.list ((List.range k).map fun h => partD (wP vs a (ms h))))) = some (.dat (partD (wP vs a (ms h0)))) := by
      rw [List.map_map] at q1; exact q1
    unfold F_best_of_all
    refine fnF_rt ?_
    have eg : g_best_of_all = sSeq (sRet (FD.e1 dMax (eLc [3] (iRange (FD.e1 dLen (eVar 2))) (gtN 3) tYesF (eCall F_best_for_hub (aCons (eVar 0) (aCons (eVar 1) (aCons (eVar 2) (aCons (eVar 3) aNil)))))))) sNil := rfl
    rw [eg]
    exact sSeq_rt (sRet_of (e1_of lc q3))
end K08
end

section
set_option Elab.async false
set_option linter.all false
set_option maxRecDepth 100000
set_option maxHeartbeats 4000000
/-! M18: best_map, shows_best_map. -/
namespace K08
open PySem FD
variable {a l k : Nat} {vs : List (List Int)}
theorem need_island (D : Dom a l k) : F_need_island [.dat (iD a), .dat (iD l)] = some (.dat .none) := by
  rcases D.la with rfl | rfl <;> rcases D.ll with rfl | rfl <;> rfl
theorem need_all (D : Dom a l k) (V : VOk9 k (a * l + 1) vs) : F_need_all [.dat (iD a), .dat (iD l), valsD vs] = some (.dat .none) := by
  have e := are_values_ok V
  have hm : dMul (.dat (iD a)) (.dat (iD l)) = some (.dat (iD (a * l))) := mul_iD (by rcases D.la with h | h <;> omega)
  have ht : dIsi "tuple" (valsD vs) = some (dB true) := rfl
  have hv : dLen (valsD vs) = some (.dat (iD k)) := by rw [dLen_vals, V.len]; rfl
  have h1 : dAdd (.dat (iD l)) (.dat (.int 1)) = some (.dat (iD (l + 1))) := rfl
  have h1' : dAdd (.dat (iD (a * l))) (.dat (.int 1)) = some (.dat (iD (a * l + 1))) := rfl
  have h2 : dLe (.dat (.int 2)) (.dat (iD k)) = some (dB true) := by
    show some (dB (decide ((2 : Int) ≤ (k : Int)))) = _
    rw [decide_eq_true (by have := D.lk; omega)]
  have h3 : dLe (.dat (iD k)) (.dat (iD (l + 1))) = some (dB true) := by
    show some (dB (decide ((k : Int) ≤ ((l + 1 : Nat) : Int)))) = _
    rw [decide_eq_true (by have := D.lk; omega)]
  have t2 : tNotF (eTru (e1 (dIsi "tuple") (eVar 2))) [some (false, .dat (iD a)), some (false, .dat (iD l)), some (false, valsD vs)] = some false := by
    simp only [fnF, startD, sSeq, sNil, sRet, sIf, sSet, sExpr, sTup, sPar, sPar3, sFrz, sRetO, sFor, sNever, sClr, FD.e1, FD.e2, FD.e3, eVar, eRd, eC, eCall, aCons, aNil, eAnd, eOr, eNot, eIf, eTru, tNotF, tAndF, tOrF, eTupL, eLstL, lCons, lNil, lStar, eSl, pN, pS, iSeq, iKeys, iEnum, items, setAll, gtN, gtT, Option.bind_some, Option.map_some, Option.bind_none, Option.map_none, List.map_cons, List.map_nil, List.length_cons, List.length_nil, List.replicate, List.nil_append, List.cons_append, List.append_nil, List.getElem?_cons_zero, List.getElem?_cons_succ, List.set_cons_zero, List.set_cons_succ, Nat.reduceSub, Nat.reduceAdd, Nat.reduceLeDiff, wipeD, if_true, if_false, Bool.false_eq_true, dTru, dB, Bool.not_true, Bool.not_false, ht]
  have t3 : eChain dLe dLe (eC (.int 2)) (e1 dLen (eVar 2)) (e2 dAdd (eVar 1) (eC (.int 1))) [some (false, .dat (iD a)), some (false, .dat (iD l)), some (false, valsD vs)] = some (dB true) := by
    simp only [fnF, startD, sSeq, sNil, sRet, sIf, sSet, sExpr, sTup, sPar, sPar3, sFrz, sRetO, sFor, sNever, sClr, FD.e1, FD.e2, FD.e3, eVar, eRd, eC, eCall, aCons, aNil, eAnd, eOr, eNot, eIf, eTru, tNotF, tAndF, tOrF, eTupL, eLstL, lCons, lNil, lStar, eSl, pN, pS, iSeq, iKeys, iEnum, items, setAll, gtN, gtT, Option.bind_some, Option.map_some, Option.bind_none, Option.map_none, List.map_cons, List.map_nil, List.length_cons, List.length_nil, List.replicate, List.nil_append, List.cons_append, List.append_nil, List.getElem?_cons_zero, List.getElem?_cons_succ, List.set_cons_zero, List.set_cons_succ, Nat.reduceSub, Nat.reduceAdd, Nat.reduceLeDiff, wipeD, if_true, if_false, Bool.false_eq_true, dTru, dB, Bool.not_true, Bool.not_false, eChain, hv, h2, h1, h3]
  have t4 : eCall F_are_values (aCons (e1 dLen (eVar 2)) (aCons (e2 dAdd (e2 dMul (eVar 0) (eVar 1)) (eC (.int 1))) (aCons (eVar 2) aNil))) [some (false, .dat (iD a)), some (false, .dat (iD l)), some (false, valsD vs)] = some (dB true) :=
    eCall_of (aCons_of (e1_of rfl hv) (aCons_of (e2_of (e2_of rfl rfl hm) rfl h1') (aCons_of rfl rfl))) e
  have ni := need_island D
  unfold F_need_all g_need_all
  have s1 : sExpr (eCall F_need_island (aCons (eVar 0) (aCons (eVar 1) aNil))) (startD 3 [.dat (iD a), .dat (iD l), valsD vs]) = some (.nx [some (false, .dat (iD a)), some (false, .dat (iD l)), some (false, valsD vs)]) := by
    unfold sExpr
    rw [eCall_of (xs := [.dat (iD a), .dat (iD l)]) rfl ni]; rfl
  unfold fnF
  rw [sSeq_nx s1, sSeq_nx (e := [some (false, .dat (iD a)), some (false, .dat (iD l)), some (false, valsD vs)]), sSeq_nx (e := [some (false, .dat (iD a)), some (false, .dat (iD l)), some (false, valsD vs)])]
  · rfl
  · unfold sIf tNotF eTru
    rw [t4]; rfl
  · unfold sIf tOrF
    rw [t2]
    unfold tNotF eTru
    simp only [Option.bind_some]
    rw [t3]; rfl
theorem sExpr_of {f : DE → Option DV} {env : DE} {x : DV} (h : f env = some x) : sExpr f env = some (.nx env) := by unfold sExpr; rw [h, Option.map_some]
theorem best_map (D : Dom a l k) (V : VOk9 k (a * l + 1) vs) {d : DV} (hb : F_best_of_all [.dat (iD a), .dat (iD l), valsD vs] = some d) : F_best_map [.dat (iD a), .dat (iD l), valsD vs] = some d := by
  unfold F_best_map
  refine fnF_rt ?_
  unfold g_best_map
  rw [sSeq_nx (sExpr_of (eCall_of (xs := [.dat (iD a), .dat (iD l), valsD vs]) rfl (need_all D V)))]
  exact sSeq_rt (sRet_of (eCall_of (xs := [.dat (iD a), .dat (iD l), valsD vs]) rfl hb))
end K08
end

section
set_option Elab.async false
set_option linter.all false
set_option maxRecDepth 100000
set_option maxHeartbeats 4000000
/-! M19: what shows the best map. -/
namespace K08
open PySem FD
variable {a l k : Nat} {vs : List (List Int)}
theorem shows_map (D : Dom a l k) (V : VOk9 k (a * l + 1) vs) {m : List Nat} (hb : F_best_of_all [.dat (iD a), .dat (iD l), valsD vs] = some (.dat (partD (wP vs a m)))) :
    Shw a l k vs (wN vs m) (mapsN a l k) fun v => F_shows_best_map [.dat (iD a), .dat (iD l), valsD vs, v] := by
  have na := need_all D V
  have hv : dLen (valsD vs) = some (.dat (iD k)) := by rw [dLen_vals, V.len]; rfl
  have hb0 : dIx (.dat (partD (wP vs a m))) (.dat (.int 0)) = some (.dat (.int (wN vs m))) := rfl
  have same : ∀ i : Nat, dNe (.dat (iD i)) (.dat (iD i)) = some (dB false) := fun i => by
    show some (dB (!decide ((i : Int) = (i : Int)))) = _
    simp
  have st : ∀ v : PyData, ∀ r : DV, (sSeq (sIf (tOrF (tNotF (eTru (e1 (dIsi "tuple") (eVar 3)))) (tOrF (eTru (e2 dNe (e1 dLen (eVar 3)) (eC (.int 2)))) (tOrF (tNotF (eTru (eCall F_is_in (aCons (e2 dIx (eVar 3) (eC (.int 0))) (aCons (eVar 4) (aCons (eVar 4) aNil)))))) (tNotF (eTru (eCall F_is_map (aCons (e2 dIx (eVar 3) (eC (.int 1))) aNil))))))) (sSeq (sRet (eC (.bool false))) sNil) sNil) (sSeq (sIf (tOrF (eTru (e2 dNe (e2 dIx (e2 dIx (eVar 3) (eC (.int 1))) (eC (.int 0))) (eVar 0))) (tOrF (eTru (e2 dNe (eCall F_length_of (aCons (e2 dIx (eVar 3) (eC (.int 1))) aNil)) (eVar 1))) (eTru (e2 dNe (eCall F_lands_of (aCons (e2 dIx (eVar 3) (eC (.int 1))) aNil)) (e1 dLen (eVar 2)))))) (sSeq (sRet (eC (.bool false))) sNil) sNil) (sSeq (sRet (e2 dEq (eCall F_worth_of (aCons (e2 dIx (eVar 3) (eC (.int 1))) (aCons (eVar 2) aNil))) (eVar 4))) sNil))) [some (false, .dat (iD a)), some (false, .dat (iD l)), some (false, valsD vs), some (false, .dat v), some (false, .dat (.int (wN vs m)))] = some (.rt r) →
      F_shows_best_map [.dat (iD a), .dat (iD l), valsD vs, .dat v] = some r := by
    intro v r h
    unfold F_shows_best_map
    refine fnF_rt ?_
    unfold g_shows_best_map
    rw [sSeq_nx (sExpr_of (eCall_of (xs := [.dat (iD a), .dat (iD l), valsD vs]) rfl na)), sSeq_nx (sSet_of (e2_of (eCall_of (xs := [.dat (iD a), .dat (iD l), valsD vs]) rfl hb) rfl hb0))]
    exact h
  refine ⟨fun z x hx => st _ _ ?_, fun ds => st _ _ ?_, st _ _ ?_, fun i => st _ _ ?_, fun d hd => st _ _ ?_⟩
  · simp only [fnF, startD, sSeq, sNil, sRet, sIf, sSet, sExpr, sTup, sPar, sPar3, sFrz, sRetO, sFor, sNever, sClr, FD.e1, FD.e2, FD.e3, eVar, eRd, eC, eCall, aCons, aNil, eAnd, eOr, eNot, eIf, eTru, tNotF, tAndF, tOrF, eTupL, eLstL, lCons, lNil, lStar, eSl, pN, pS, iSeq, iKeys, iEnum, items, setAll, gtN, gtT, Option.bind_some, Option.map_some, Option.bind_none, Option.map_none, List.map_cons, List.map_nil, List.length_cons, List.length_nil, List.replicate, List.nil_append, List.cons_append, List.append_nil, List.getElem?_cons_zero, List.getElem?_cons_succ, List.set_cons_zero, List.set_cons_succ, Nat.reduceSub, Nat.reduceAdd, Nat.reduceLeDiff, wipeD, if_true, if_false, Bool.false_eq_true, dTru, dB, Bool.not_true, Bool.not_false]
    simp only [partD, isi_tup, len2, ne22, ix0, ix1, in_same, fnF, startD, sSeq, sNil, sRet, sIf, sSet, sExpr, sTup, sPar, sPar3, sFrz, sRetO, sFor, sNever, sClr, FD.e1, FD.e2, FD.e3, eVar, eRd, eC, eCall, aCons, aNil, eAnd, eOr, eNot, eIf, eTru, tNotF, tAndF, tOrF, eTupL, eLstL, lCons, lNil, lStar, eSl, pN, pS, iSeq, iKeys, iEnum, items, setAll, gtN, gtT, Option.bind_some, Option.map_some, Option.bind_none, Option.map_none, List.map_cons, List.map_nil, List.length_cons, List.length_nil, List.replicate, List.nil_append, List.cons_append, List.append_nil, List.getElem?_cons_zero, List.getElem?_cons_succ, List.set_cons_zero, List.set_cons_succ, Nat.reduceSub, Nat.reduceAdd, Nat.reduceLeDiff, wipeD, if_true, if_false, Bool.false_eq_true, dTru, dB, Bool.not_true, Bool.not_false]
    by_cases hz : z = wN vs m
    · have ix1' : dIx (.dat (.tuple [.int (wN vs m), chP a x])) (.dat (.int 1)) = some (chD a x) := rfl
      have de : dEq (.dat (.int (wN vs x))) (.dat (.int (wN vs m))) = some (dB (decide (wN vs x = wN vs m))) := rfl
      have im : F_is_map [.dat (chP a x)] = some (dB true) := D.isMap x hx
      simp only [hz, decide_true, fnF, startD, sSeq, sNil, sRet, sIf, sSet, sExpr, sTup, sPar, sPar3, sFrz, sRetO, sFor, sNever, sClr, FD.e1, FD.e2, FD.e3, eVar, eRd, eC, eCall, aCons, aNil, eAnd, eOr, eNot, eIf, eTru, tNotF, tAndF, tOrF, eTupL, eLstL, lCons, lNil, lStar, eSl, pN, pS, iSeq, iKeys, iEnum, items, setAll, gtN, gtT, Option.bind_some, Option.map_some, Option.bind_none, Option.map_none, List.map_cons, List.map_nil, List.length_cons, List.length_nil, List.replicate, List.nil_append, List.cons_append, List.append_nil, List.getElem?_cons_zero, List.getElem?_cons_succ, List.set_cons_zero, List.set_cons_succ, Nat.reduceSub, Nat.reduceAdd, Nat.reduceLeDiff, wipeD, if_true, if_false, Bool.false_eq_true, dTru, dB, Bool.not_true, Bool.not_false, im, ix1', D.isMap x hx, dIx_ch0, D.len x hx, D.lands x hx, wOf D hx V, hv, same, hx, Bool.true_and, de]
    · simp only [hz, decide_false, Bool.not_false, fnF, startD, sSeq, sNil, sRet, sIf, sSet, sExpr, sTup, sPar, sPar3, sFrz, sRetO, sFor, sNever, sClr, FD.e1, FD.e2, FD.e3, eVar, eRd, eC, eCall, aCons, aNil, eAnd, eOr, eNot, eIf, eTru, tNotF, tAndF, tOrF, eTupL, eLstL, lCons, lNil, lStar, eSl, pN, pS, iSeq, iKeys, iEnum, items, setAll, gtN, gtT, Option.bind_some, Option.map_some, Option.bind_none, Option.map_none, List.map_cons, List.map_nil, List.length_cons, List.length_nil, List.replicate, List.nil_append, List.cons_append, List.append_nil, List.getElem?_cons_zero, List.getElem?_cons_succ, List.set_cons_zero, List.set_cons_succ, Nat.reduceSub, Nat.reduceAdd, Nat.reduceLeDiff, wipeD, if_true, if_false, Bool.false_eq_true, dTru, dB, Bool.not_true, Bool.not_false, Bool.false_and]
  · simp only [fnF, startD, sSeq, sNil, sRet, sIf, sSet, sExpr, sTup, sPar, sPar3, sFrz, sRetO, sFor, sNever, sClr, FD.e1, FD.e2, FD.e3, eVar, eRd, eC, eCall, aCons, aNil, eAnd, eOr, eNot, eIf, eTru, tNotF, tAndF, tOrF, eTupL, eLstL, lCons, lNil, lStar, eSl, pN, pS, iSeq, iKeys, iEnum, items, setAll, gtN, gtT, Option.bind_some, Option.map_some, Option.bind_none, Option.map_none, List.map_cons, List.map_nil, List.length_cons, List.length_nil, List.replicate, List.nil_append, List.cons_append, List.append_nil, List.getElem?_cons_zero, List.getElem?_cons_succ, List.set_cons_zero, List.set_cons_succ, Nat.reduceSub, Nat.reduceAdd, Nat.reduceLeDiff, wipeD, if_true, if_false, Bool.false_eq_true, dTru, dB, Bool.not_true, Bool.not_false, isi_lst]
  · simp only [fnF, startD, sSeq, sNil, sRet, sIf, sSet, sExpr, sTup, sPar, sPar3, sFrz, sRetO, sFor, sNever, sClr, FD.e1, FD.e2, FD.e3, eVar, eRd, eC, eCall, aCons, aNil, eAnd, eOr, eNot, eIf, eTru, tNotF, tAndF, tOrF, eTupL, eLstL, lCons, lNil, lStar, eSl, pN, pS, iSeq, iKeys, iEnum, items, setAll, gtN, gtT, Option.bind_some, Option.map_some, Option.bind_none, Option.map_none, List.map_cons, List.map_nil, List.length_cons, List.length_nil, List.replicate, List.nil_append, List.cons_append, List.append_nil, List.getElem?_cons_zero, List.getElem?_cons_succ, List.set_cons_zero, List.set_cons_succ, Nat.reduceSub, Nat.reduceAdd, Nat.reduceLeDiff, wipeD, if_true, if_false, Bool.false_eq_true, dTru, dB, Bool.not_true, Bool.not_false, isi_non]
  · simp only [fnF, startD, sSeq, sNil, sRet, sIf, sSet, sExpr, sTup, sPar, sPar3, sFrz, sRetO, sFor, sNever, sClr, FD.e1, FD.e2, FD.e3, eVar, eRd, eC, eCall, aCons, aNil, eAnd, eOr, eNot, eIf, eTru, tNotF, tAndF, tOrF, eTupL, eLstL, lCons, lNil, lStar, eSl, pN, pS, iSeq, iKeys, iEnum, items, setAll, gtN, gtT, Option.bind_some, Option.map_some, Option.bind_none, Option.map_none, List.map_cons, List.map_nil, List.length_cons, List.length_nil, List.replicate, List.nil_append, List.cons_append, List.append_nil, List.getElem?_cons_zero, List.getElem?_cons_succ, List.set_cons_zero, List.set_cons_succ, Nat.reduceSub, Nat.reduceAdd, Nat.reduceLeDiff, wipeD, if_true, if_false, Bool.false_eq_true, dTru, dB, Bool.not_true, Bool.not_false, isi_int]
  · simp only [fnF, startD, sSeq, sNil, sRet, sIf, sSet, sExpr, sTup, sPar, sPar3, sFrz, sRetO, sFor, sNever, sClr, FD.e1, FD.e2, FD.e3, eVar, eRd, eC, eCall, aCons, aNil, eAnd, eOr, eNot, eIf, eTru, tNotF, tAndF, tOrF, eTupL, eLstL, lCons, lNil, lStar, eSl, pN, pS, iSeq, iKeys, iEnum, items, setAll, gtN, gtT, Option.bind_some, Option.map_some, Option.bind_none, Option.map_none, List.map_cons, List.map_nil, List.length_cons, List.length_nil, List.replicate, List.nil_append, List.cons_append, List.append_nil, List.getElem?_cons_zero, List.getElem?_cons_succ, List.set_cons_zero, List.set_cons_succ, Nat.reduceSub, Nat.reduceAdd, Nat.reduceLeDiff, wipeD, if_true, if_false, Bool.false_eq_true, dTru, dB, Bool.not_true, Bool.not_false]
    simp only [partD, isi_tup, len2, ne22, ix0, ix1, in_same, decide_true, hd, fnF, startD, sSeq, sNil, sRet, sIf, sSet, sExpr, sTup, sPar, sPar3, sFrz, sRetO, sFor, sNever, sClr, FD.e1, FD.e2, FD.e3, eVar, eRd, eC, eCall, aCons, aNil, eAnd, eOr, eNot, eIf, eTru, tNotF, tAndF, tOrF, eTupL, eLstL, lCons, lNil, lStar, eSl, pN, pS, iSeq, iKeys, iEnum, items, setAll, gtN, gtT, Option.bind_some, Option.map_some, Option.bind_none, Option.map_none, List.map_cons, List.map_nil, List.length_cons, List.length_nil, List.replicate, List.nil_append, List.cons_append, List.append_nil, List.getElem?_cons_zero, List.getElem?_cons_succ, List.set_cons_zero, List.set_cons_succ, Nat.reduceSub, Nat.reduceAdd, Nat.reduceLeDiff, wipeD, if_true, if_false, Bool.false_eq_true, dTru, dB, Bool.not_true, Bool.not_false]
end K08
end

section
set_option Elab.async false
set_option linter.all false
set_option maxRecDepth 100000
set_option maxHeartbeats 4000000
/-! M20: climbing, by the package. -/
namespace K08
open PySem FD
variable {a l k : Nat} {vs : List (List Int)}
/-! readings, one step each -/
theorem tOr_t {t1 t2 : DE → Option Bool} {env : DE} (h : t1 env = some true) : tOrF t1 t2 env = some true := by unfold tOrF; rw [h, Option.bind_some, if_pos rfl]
theorem tOr_f {t1 t2 : DE → Option Bool} {env : DE} (h : t1 env = some false) : tOrF t1 t2 env = t2 env := by unfold tOrF; rw [h, Option.bind_some, if_neg Bool.false_ne_true]
theorem tAnd_t {t1 t2 : DE → Option Bool} {env : DE} (h : t1 env = some true) : tAndF t1 t2 env = t2 env := by unfold tAndF; rw [h, Option.bind_some, if_pos rfl]
theorem tAnd_f {t1 t2 : DE → Option Bool} {env : DE} (h : t1 env = some false) : tAndF t1 t2 env = some false := by unfold tAndF; rw [h, Option.bind_some, if_neg Bool.false_ne_true]
theorem tNot_of {t1 : DE → Option Bool} {env : DE} {b : Bool} (h : t1 env = some b) : tNotF t1 env = some (!b) := by unfold tNotF; rw [h, Option.map_some]
theorem tru_b {f : DE → Option DV} {env : DE} {b : Bool} (h : f env = some (dB b)) : eTru f env = some b := by unfold eTru; rw [h, Option.bind_some]; rfl
theorem sIf_t {t : DE → Option Bool} {g1 g2 : DE → Option Out} {env : DE} (h : t env = some true) : sIf t g1 g2 env = g1 env := by unfold sIf; rw [h, Option.bind_some, if_pos rfl]
theorem sIf_f {t : DE → Option Bool} {g1 g2 : DE → Option Out} {env : DE} (h : t env = some false) : sIf t g1 g2 env = g2 env := by unfold sIf; rw [h, Option.bind_some, if_neg Bool.false_ne_true]
theorem sClr_rt {g : DE → Option Out} {env : DE} {x : DV} {vs : List Nat} (h : g env = some (.rt x)) : sClr vs g env = some (.rt x) := by unfold sClr; rw [h, Option.map_some]
theorem sWhile_f {t : DE → Option Bool} {g : DE → Option Out} {n : Nat} {env : DE} (h : t env = some false) : sWhile t g (n + 1) env = some (.nx env) := by
  unfold sWhile; rw [h, Option.bind_some, if_neg Bool.false_ne_true]
theorem sWhile_nx {t : DE → Option Bool} {g : DE → Option Out} {n : Nat} {env e : DE} (h : t env = some true) (h2 : g env = some (.nx e)) : sWhile t g (n + 1) env = sWhile t g n e := by
  show ((t env).bind _) = _
  rw [h, Option.bind_some, if_pos rfl, h2, Option.bind_some]
theorem sWhile_rt {t : DE → Option Bool} {g : DE → Option Out} {n : Nat} {env : DE} {x : DV} (h : t env = some true) (h2 : g env = some (.rt x)) : sWhile t g (n + 1) env = some (.rt x) := by
  show ((t env).bind _) = _
  rw [h, Option.bind_some, if_pos rfl, h2, Option.bind_some]
theorem sSeq_cong {g1 g2 g3 : DE → Option Out} {e1 e2 : DE} (h : g1 e1 = g2 e2) : sSeq g1 g3 e1 = sSeq g2 g3 e2 := by unfold sSeq; rw [h]
theorem gt_int (i j : Int) : dGt (.dat (.int i)) (.dat (.int j)) = some (dB (decide (j < i))) := rfl
theorem lt_int (i j : Int) : dLt (.dat (.int i)) (.dat (.int j)) = some (dB (decide (i < j))) := rfl
theorem le_int (i j : Int) : dLe (.dat (.int i)) (.dat (.int j)) = some (dB (decide (i ≤ j))) := rfl
theorem eq_int (i j : Int) : dEq (.dat (.int i)) (.dat (.int j)) = some (dB (decide (i = j))) := rfl
theorem ne_int (i j : Int) : dNe (.dat (.int i)) (.dat (.int j)) = some (dB (!decide (i = j))) := rfl
/-! the first of the greatest -/
section
variable {α : Type} {f : α → Int}
def bstO (f : α → Int) (b : Option α) (x : α) : Option α := match b with
  | none => some x
  | some y => if f y < f x then some x else some y
def firstN (f : α → Int) (xs : List α) : Option α := xs.foldl (bstO f) none
structure Frst (f : α → Int) (xs : List α) (j : Nat) (m : α) : Prop where
  here : xs[j]? = some m
  ge : ∀ x ∈ xs, f x ≤ f m
  lt : ∀ i x, i < j → xs[i]? = some x → f x < f m
theorem Frst.mem {xs : List α} {j : Nat} {m : α} (h : Frst f xs j m) : m ∈ xs := List.mem_of_getElem? h.here
theorem frst_go : ∀ {ys xs : List α} {j : Nat} {m : α}, Frst f xs j m → ∃ j' m', ys.foldl (bstO f) (some m) = some m' ∧ Frst f (xs ++ ys) j' m'
  | [], xs, j, m, h => ⟨j, m, rfl, by rw [List.append_nil]; exact h⟩
  | y :: ys, xs, j, m, h => by
    have hj : j < xs.length := (List.getElem?_eq_some_iff.mp h.here).1
    have split : ∀ (i : Nat) (x : α), (xs ++ [y])[i]? = some x → xs[i]? = some x ∨ (i = xs.length ∧ x = y) := fun i x e => by
      by_cases hi : i < xs.length
      · rw [List.getElem?_append_left hi] at e; exact .inl e
      · rw [List.getElem?_append_right (by omega)] at e
        have h0 : i - xs.length = 0 := by
          have := (List.getElem?_eq_some_iff.mp e).1
          simp at this; omega
        rw [h0] at e
        exact .inr ⟨by omega, (Option.some.inj e).symm⟩
    have app : xs ++ y :: ys = (xs ++ [y]) ++ ys := by simp
    rw [List.foldl_cons, app]
    by_cases hy : f m < f y
    · have e : bstO f (some m) y = some y := if_pos hy
      rw [e]
      refine frst_go (xs := xs ++ [y]) (j := xs.length) ⟨by simp, fun x hx => ?_, fun i x hi e => ?_⟩
      · rcases List.mem_append.mp hx with hx | hx
        · exact Int.le_of_lt (Int.lt_of_le_of_lt (h.ge x hx) hy)
        · rw [List.mem_singleton.mp hx]; exact Int.le_refl _
      · rw [List.getElem?_append_left hi] at e
        exact Int.lt_of_le_of_lt (h.ge x (List.mem_of_getElem? e)) hy
    · have e : bstO f (some m) y = some m := if_neg hy
      rw [e]
      refine frst_go (xs := xs ++ [y]) (j := j) ⟨by rw [List.getElem?_append_left hj]; exact h.here, fun x hx => ?_, fun i x hi e => ?_⟩
      · rcases List.mem_append.mp hx with hx | hx
        · exact h.ge x hx
        · rw [List.mem_singleton.mp hx]; omega
      · rw [List.getElem?_append_left (by omega)] at e
        exact h.lt i x hi e
theorem firstN_some {xs : List α} (hne : xs ≠ []) : ∃ j m, firstN f xs = some m ∧ Frst f xs j m := by
  cases xs with
  | nil => exact absurd rfl hne
  | cons x xs =>
    obtain ⟨j, m, h1, h2⟩ := frst_go (f := f) (ys := xs) (xs := [x]) (j := 0) (m := x) ⟨rfl, fun y hy => by rw [List.mem_singleton.mp hy]; exact Int.le_refl _, fun i y hi => by omega⟩
    exact ⟨j, m, h1, h2⟩
end
/-! one turn of a climb, and many -/
def upF (vs : List (List Int)) (cs : List Nat) (t : Nat × Nat) : Int := wN vs (cs.set t.2 t.1)
def turnN (a l k : Nat) (vs : List (List Int)) (cs : List Nat) : Option (Nat × Nat) := match firstN (upF vs cs) (takN a l k cs) with
  | none => none
  | some t => if upF vs cs t ≤ wN vs cs then none else some t
def climbN (a l k : Nat) (vs : List (List Int)) : Nat → List Nat → List (Nat × Nat)
  | 0, _ => []
  | n + 1, cs => match turnN a l k vs cs with
    | none => []
    | some t => t :: climbN a l k vs n (cs.set t.2 t.1)
def bD (f : Nat × Nat → Int) : Option (Nat × Nat) → PyData
  | none => .none
  | some t => partD (f t, pairD t)
def eCl (a : Nat) (vs : List (List Int)) (cs : List Nat) (acc : List (Nat × Nat)) (x3 x4 x5 : Option (Bool × DV)) : DE := [some (false, chD a cs), some (false, valsD vs), some (true, .dat (.list (acc.map pairD))), x3, x4, x5]
def gTake : DE → Option Out := sClr [4, 5] (sSeq (sSet false 5 (eCall F_worth_of (aCons (eCall F_taken (aCons (eVar 0) (aCons (eVar 4) aNil))) (aCons (eVar 1) aNil)))) (sSeq (sIf (tOrF (eTru (e2 dIs (eVar 3) (eC .none))) (eTru (e2 dGt (eVar 5) (e2 dIx (eVar 3) (eC (.int 0)))))) (sSeq (sSet false 3 (eTupL (lCons (eVar 5) (lCons (eVar 4) lNil)))) sNil) sNil) sNil))
theorem lCons_of {f : DE → Option DV} {rl : DE → Option (List PyData)} {env : DE} {d : PyData} {ds : List PyData} (h : f env = some (.dat d)) (h2 : rl env = some ds) : lCons f rl env = some (d :: ds) := by
  unfold lCons; rw [h, Option.bind_some]; show (rl env).map _ = _; rw [h2]; rfl
theorem eTupL_of {fl : DE → Option (List PyData)} {env : DE} {ds : List PyData} (h : fl env = some ds) (hl : ds.length ≤ 100000) : eTupL fl env = some (.dat (.tuple ds)) := by
  unfold eTupL; rw [h, Option.bind_some, if_pos hl]
theorem eLstL_of {fl : DE → Option (List PyData)} {env : DE} {ds : List PyData} (h : fl env = some ds) (hl : ds.length ≤ 100000) : eLstL fl env = some (.dat (.list ds)) := by
  unfold eLstL; rw [h, Option.bind_some, if_pos hl]
theorem two_of {f1 f2 : DE → Option DV} {env : DE} {x y : PyData} (h : f1 env = some (.dat x)) (h2 : f2 env = some (.dat y)) : eTupL (lCons f1 (lCons f2 lNil)) env = some (.dat (.tuple [x, y])) :=
  eTupL_of (lCons_of h (lCons_of h2 rfl)) (by show 2 ≤ 100000; decide)
theorem take_ok (D : Dom a l k) (V : VOk9 k (a * l + 1) vs) {cs : List Nat} (hc : cs ∈ mapsN a l k) {t : Nat × Nat} (ht : t ∈ takN a l k cs) {acc : List (Nat × Nat)} (s : Option (Nat × Nat)) :
    gTake ((eCl a vs cs acc (some (false, .dat (bD (upF vs cs) s))) none none).set 4 (some (false, .dat (pairD t)))) = some (.nx (eCl a vs cs acc (some (false, .dat (bD (upF vs cs) (bstO (upF vs cs) s t)))) none none)) := by
  have hw : F_worth_of [chD a (cs.set t.2 t.1), valsD vs] = some (.dat (.int (upF vs cs t))) := wOf D (D.closed cs hc t ht) V
  have s1 : sSet false 5 (eCall F_worth_of (aCons (eCall F_taken (aCons (eVar 0) (aCons (eVar 4) aNil))) (aCons (eVar 1) aNil))) (eCl a vs cs acc (some (false, .dat (bD (upF vs cs) s))) (some (false, .dat (pairD t))) none) = some (.nx (eCl a vs cs acc (some (false, .dat (bD (upF vs cs) s))) (some (false, .dat (pairD t))) (some (false, .dat (.int (upF vs cs t)))))) :=
    sSet_of (eCall_of (xs := [chD a (cs.set t.2 t.1), valsD vs]) (aCons_of (eCall_of (xs := [chD a cs, .dat (pairD t)]) rfl (D.tkn cs hc t ht)) rfl) hw)
  have put : sSeq (sSet false 3 (eTupL (lCons (eVar 5) (lCons (eVar 4) lNil)))) sNil (eCl a vs cs acc (some (false, .dat (bD (upF vs cs) s))) (some (false, .dat (pairD t))) (some (false, .dat (.int (upF vs cs t))))) = some (.nx (eCl a vs cs acc (some (false, .dat (partD (upF vs cs t, pairD t)))) (some (false, .dat (pairD t))) (some (false, .dat (.int (upF vs cs t)))))) := by
    rw [sSeq_nx (sSet_of (two_of rfl rfl))]; rfl
  unfold gTake
  cases s with
  | none =>
    have t1 : eTru (e2 dIs (eVar 3) (eC .none)) (eCl a vs cs acc (some (false, .dat (bD (upF vs cs) none))) (some (false, .dat (pairD t))) (some (false, .dat (.int (upF vs cs t))))) = some true := rfl
    refine sClr_nx (e := eCl a vs cs acc (some (false, .dat (partD (upF vs cs t, pairD t)))) (some (false, .dat (pairD t))) (some (false, .dat (.int (upF vs cs t))))) ?_
    refine (sSeq_nx s1).trans ?_
    refine (sSeq_nx ((sIf_t (tOr_t t1)).trans put)).trans rfl
  | some y =>
    have t1 : eTru (e2 dIs (eVar 3) (eC .none)) (eCl a vs cs acc (some (false, .dat (bD (upF vs cs) (some y)))) (some (false, .dat (pairD t))) (some (false, .dat (.int (upF vs cs t))))) = some false := rfl
    have t2 : eTru (e2 dGt (eVar 5) (e2 dIx (eVar 3) (eC (.int 0)))) (eCl a vs cs acc (some (false, .dat (bD (upF vs cs) (some y)))) (some (false, .dat (pairD t))) (some (false, .dat (.int (upF vs cs t))))) = some (decide (upF vs cs y < upF vs cs t)) :=
      tru_b (e2_of rfl (e2_of rfl rfl (ix0 _ _)) (gt_int _ _))
    by_cases h : upF vs cs y < upF vs cs t
    · rw [decide_eq_true h] at t2
      have e : bstO (upF vs cs) (some y) t = some t := if_pos h
      rw [e]
      refine sClr_nx (e := eCl a vs cs acc (some (false, .dat (partD (upF vs cs t, pairD t)))) (some (false, .dat (pairD t))) (some (false, .dat (.int (upF vs cs t))))) ?_
      refine (sSeq_nx s1).trans ?_
      refine (sSeq_nx ((sIf_t ((tOr_f t1).trans t2)).trans put)).trans rfl
    · rw [decide_eq_false h] at t2
      have e : bstO (upF vs cs) (some y) t = some y := if_neg h
      rw [e]
      refine sClr_nx (e := eCl a vs cs acc (some (false, .dat (bD (upF vs cs) (some y)))) (some (false, .dat (pairD t))) (some (false, .dat (.int (upF vs cs t))))) ?_
      refine (sSeq_nx s1).trans ?_
      refine (sSeq_nx ((sIf_f ((tOr_f t1).trans t2)).trans rfl)).trans rfl
def gClimb : DE → Option Out := sClr [3, 4, 5] (sSeq (sSet false 3 (eC .none)) (sSeq (sFor (iSeq (eCall F_all_takings (aCons (eVar 0) aNil))) (gtN 4) gTake) (sSeq (sIf (tOrF (eTru (e2 dIs (eVar 3) (eC .none))) (eTru (e2 dLe (e2 dIx (eVar 3) (eC (.int 0))) (eCall F_worth_of (aCons (eVar 0) (aCons (eVar 1) aNil)))))) (sSeq (sRet (e1 dTuple (eRd 2))) sNil) sNil) (sSeq (sApp 2 (e2 dIx (eVar 3) (eC (.int 1)))) (sSeq (sSet false 0 (eCall F_taken (aCons (eVar 0) (aCons (e2 dIx (eVar 3) (eC (.int 1))) aNil)))) sNil)))))
theorem iSeq_of {f : DE → Option DV} {env : DE} {ds : List PyData} (h : f env = some (.dat (.list ds))) : iSeq f env = some ds := by unfold iSeq; rw [h, Option.bind_some]; rfl
theorem takes_ok (D : Dom a l k) (V : VOk9 k (a * l + 1) vs) {cs : List Nat} (hc : cs ∈ mapsN a l k) {acc : List (Nat × Nat)} :
    sFor (iSeq (eCall F_all_takings (aCons (eVar 0) aNil))) (gtN 4) gTake (eCl a vs cs acc (some (false, .dat .none)) none none) = some (.nx (eCl a vs cs acc (some (false, .dat (bD (upF vs cs) (firstN (upF vs cs) (takN a l k cs))))) none none)) := by
  have it : iSeq (eCall F_all_takings (aCons (eVar 0) aNil)) (eCl a vs cs acc (some (false, .dat .none)) none none) = some ((takN a l k cs).map pairD) := iSeq_of (eCall_of (xs := [chD a cs]) rfl (D.tak cs hc))
  refine (sFor_of it).trans ?_
  have r := forGo_rel (f := pairD) (gt := gtN 4) (body := gTake) (step := bstO (upF vs cs)) (R := fun env s => env = eCl a vs cs acc (some (false, .dat (bD (upF vs cs) s))) none none) (xs := takN a l k cs)
    (fun t ht env s e => by subst e; exact ⟨_, _, rfl, take_ok D V hc ht s, rfl⟩) (env := eCl a vs cs acc (some (false, .dat .none)) none none) (s := none) rfl
  obtain ⟨env', h1, rfl⟩ := r
  exact h1
theorem app_row {acc : List (Nat × Nat)} {cs : List Nat} {t : Nat × Nat} (hl : acc.length < 100000) : sApp 2 (e2 dIx (eVar 3) (eC (.int 1))) (eCl a vs cs acc (some (false, .dat (partD (upF vs cs t, pairD t)))) none none) = some (.nx (eCl a vs cs (acc ++ [t]) (some (false, .dat (partD (upF vs cs t, pairD t)))) none none)) := by
  unfold sApp
  rw [e2_of (x := .dat (partD (upF vs cs t, pairD t))) (y := .dat (.int 1)) rfl rfl (ix1 _ _)]
  show (if ((acc.map pairD).length < 100000) then _ else _) = _
  rw [if_pos (by rw [List.length_map]; exact hl)]
  unfold eCl
  rw [List.map_append]
  rfl
theorem len_row {acc : List (Nat × Nat)} {cs : List Nat} : eTru (e2 dLt (e1 dLen (eRd 2)) (eC (.int 40))) (eCl a vs cs acc none none none) = some (decide (acc.length < 40)) := by
  have h : e1 dLen (eRd 2) (eCl a vs cs acc none none none) = some (.dat (.int ((acc.length : Nat) : Int))) := by
    show some (DV.dat (.int (((acc.map pairD).length : Nat) : Int))) = _
    rw [List.length_map]
  refine (tru_b (e2_of h rfl (lt_int _ _))).trans ?_
  exact congrArg some (decide_eq_decide.mpr (by omega))
theorem ret_row {acc : List (Nat × Nat)} {cs : List Nat} {x3 x4 x5 : Option (Bool × DV)} : sSeq (sRet (e1 dTuple (eRd 2))) sNil (eCl a vs cs acc x3 x4 x5) = some (.rt (.dat (.tuple (acc.map pairD)))) := sSeq_rt (sRet_of rfl)
theorem climb_go (D : Dom a l k) (V : VOk9 k (a * l + 1) vs) : ∀ (n : Nat) {cs : List Nat} {acc : List (Nat × Nat)}, cs ∈ mapsN a l k → acc.length + n = 40 →
    sSeq (sWhile (eTru (e2 dLt (e1 dLen (eRd 2)) (eC (.int 40)))) gClimb (n + 1)) (sSeq (sRet (e1 dTuple (eRd 2))) sNil) (eCl a vs cs acc none none none) = some (.rt (.dat (.tuple ((acc ++ climbN a l k vs n cs).map pairD))))
  | 0, cs, acc, hc, hn => by
    have t := len_row (a := a) (vs := vs) (acc := acc) (cs := cs)
    rw [decide_eq_false (by omega)] at t
    refine (sSeq_nx (sWhile_f t)).trans ?_
    have e : climbN a l k vs 0 cs = [] := rfl
    rw [e, List.append_nil]
    exact ret_row
  | n + 1, cs, acc, hc, hn => by
    have t := len_row (a := a) (vs := vs) (acc := acc) (cs := cs)
    rw [decide_eq_true (by omega)] at t
    have s0 : sSet false 3 (eC .none) (eCl a vs cs acc none none none) = some (.nx (eCl a vs cs acc (some (false, .dat .none)) none none)) := rfl
    have s1 := takes_ok D V hc (acc := acc)
    cases hf : firstN (upF vs cs) (takN a l k cs) with
    | none =>
      have e : climbN a l k vs (n + 1) cs = [] := by
        unfold climbN turnN; rw [hf]
      rw [hf] at s1
      rw [e, List.append_nil]
      refine sSeq_rt (sWhile_rt t ?_)
      unfold gClimb
      refine sClr_rt ?_
      refine (sSeq_nx s0).trans ?_
      refine (sSeq_nx s1).trans ?_
      refine sSeq_rt ((sIf_t (tOr_t rfl)).trans ret_row)
    | some m =>
      have hne : takN a l k cs ≠ [] := fun z => by rw [z] at hf; cases hf
      obtain ⟨j, m', hm', F⟩ := firstN_some (f := upF vs cs) hne
      rw [hf] at hm'
      cases hm'
      have hm := F.mem
      rw [hf] at s1
      have t1 : eTru (e2 dIs (eVar 3) (eC .none)) (eCl a vs cs acc (some (false, .dat (bD (upF vs cs) (some m)))) none none) = some false := rfl
      have t2 : eTru (e2 dLe (e2 dIx (eVar 3) (eC (.int 0))) (eCall F_worth_of (aCons (eVar 0) (aCons (eVar 1) aNil)))) (eCl a vs cs acc (some (false, .dat (bD (upF vs cs) (some m)))) none none) = some (decide (upF vs cs m ≤ wN vs cs)) :=
        tru_b (e2_of (e2_of rfl rfl (ix0 _ _)) (eCall_of (xs := [chD a cs, valsD vs]) rfl (wOf D hc V)) (le_int _ _))
      by_cases h : upF vs cs m ≤ wN vs cs
      · rw [decide_eq_true h] at t2
        have e : climbN a l k vs (n + 1) cs = [] := by
          unfold climbN turnN; rw [hf]
          dsimp only
          rw [if_pos h]
        rw [e, List.append_nil]
        refine sSeq_rt (sWhile_rt t ?_)
        unfold gClimb
        refine sClr_rt ?_
        refine (sSeq_nx s0).trans ?_
        refine (sSeq_nx s1).trans ?_
        refine sSeq_rt ((sIf_t ((tOr_f t1).trans t2)).trans ret_row)
      · rw [decide_eq_false h] at t2
        have e : climbN a l k vs (n + 1) cs = m :: climbN a l k vs n (cs.set m.2 m.1) := by
          rw [climbN]
          unfold turnN
          rw [hf]
          dsimp only
          rw [if_neg h]
        have b : gClimb (eCl a vs cs acc none none none) = some (.nx (eCl a vs (cs.set m.2 m.1) (acc ++ [m]) none none none)) := by
          unfold gClimb
          refine sClr_nx (e := eCl a vs (cs.set m.2 m.1) (acc ++ [m]) (some (false, .dat (partD (upF vs cs m, pairD m)))) none none) ?_
          refine (sSeq_nx s0).trans ?_
          refine (sSeq_nx s1).trans ?_
          refine (sSeq_nx ((sIf_f ((tOr_f t1).trans t2)).trans rfl)).trans ?_
          refine (sSeq_nx (app_row (by omega))).trans ?_
          refine (sSeq_nx (sSet_of (eCall_of (xs := [chD a cs, .dat (pairD m)]) (aCons_of rfl (aCons_of (e2_of rfl rfl (ix1 _ _)) rfl)) (D.tkn cs hc m hm)))).trans rfl
        refine (sSeq_cong (sWhile_nx t b)).trans ?_
        rw [climb_go D V n (D.closed cs hc m hm) (by rw [List.length_append]; show acc.length + 1 + n = 40; omega), e, List.append_assoc]
        rfl
theorem climb_ok (D : Dom a l k) (V : VOk9 k (a * l + 1) vs) {cs : List Nat} (hc : cs ∈ mapsN a l k) : F_climb [chD a cs, valsD vs] = some (.dat (.tuple ((climbN a l k vs 40 cs).map pairD))) := by
  have eg : g_climb = sSeq (sExpr (eCall F_need_valued (aCons (eVar 0) (aCons (eVar 1) aNil)))) (sSeq (sSet true 2 (eLstL lNil)) (sSeq (sWhile (eTru (e2 dLt (e1 dLen (eRd 2)) (eC (.int 40)))) gClimb (40 + 1)) (sSeq (sRet (e1 dTuple (eRd 2))) sNil))) := rfl
  unfold F_climb
  refine fnF_rt ?_
  rw [eg]
  refine (sSeq_nx (sExpr_of (eCall_of (xs := [chD a cs, valsD vs]) rfl (need_valued D hc V)))).trans ?_
  have s2 : sSet true 2 (eLstL lNil) (startD 6 [chD a cs, valsD vs]) = some (.nx (eCl a vs cs [] none none none)) := rfl
  refine (sSeq_nx s2).trans ?_
  exact climb_go D V 40 hc rfl
end K08
end

section
set_option Elab.async false
set_option linter.all false
set_option maxRecDepth 100000
set_option maxHeartbeats 4000000
/-! M21: the greatest of ints, its first place; likeness of values. -/
namespace K08
open PySem FD
theorem maxD_ints : ∀ (ns : List Int) (i : Int), ∃ m, PySem.W.maxD (.int i) (ns.map PyData.int) = .int m ∧ m ∈ i :: ns ∧ ∀ x ∈ i :: ns, x ≤ m
  | [], i => ⟨i, rfl, by simp, fun x hx => by rw [List.mem_singleton.mp hx]; exact Int.le_refl _⟩
  | j :: ns, i => by
    have step : PySem.W.maxD (.int i) ((j :: ns).map PyData.int) = PySem.W.maxD (if PySem.W.dataLt (.int i) (.int j) then .int j else .int i) (ns.map PyData.int) := rfl
    rw [step, PySem.W.dataLt_int]
    by_cases h : i < j
    · rw [decide_eq_true h, if_pos rfl]
      obtain ⟨m, h1, h2, h3⟩ := maxD_ints ns j
      refine ⟨m, h1, List.mem_cons_of_mem _ h2, fun x hx => ?_⟩
      rcases List.mem_cons.mp hx with rfl | hx
      · exact Int.le_trans (Int.le_of_lt h) (h3 j (by simp))
      · exact h3 x hx
    · rw [decide_eq_false h, if_neg Bool.false_ne_true]
      obtain ⟨m, h1, h2, h3⟩ := maxD_ints ns i
      refine ⟨m, h1, ?_, fun x hx => ?_⟩
      · rcases List.mem_cons.mp h2 with rfl | h2
        · simp
        · exact List.mem_cons_of_mem _ (List.mem_cons_of_mem _ h2)
      · rcases List.mem_cons.mp hx with rfl | hx
        · exact h3 x (by simp)
        · rcases List.mem_cons.mp hx with rfl | hx
          · exact Int.le_trans (by omega) (h3 i (by simp))
          · exact h3 x (List.mem_cons_of_mem _ hx)
/-- the greatest of a list's worths -/
theorem max_of {α : Type} {f : α → Int} {xs : List α} {m : α} (hm : m ∈ xs) (ge : ∀ x ∈ xs, f x ≤ f m) : dMax (.dat (.list (xs.map fun x => PyData.int (f x)))) = some (.dat (.int (f m))) := by
  cases xs with
  | nil => cases hm
  | cons y ys =>
    obtain ⟨b, h1, h2, h3⟩ := maxD_ints (ys.map f) (f y)
    have e : (y :: ys).map (fun x => PyData.int (f x)) = PyData.int (f y) :: (ys.map f).map PyData.int := by rw [List.map_cons, List.map_map]; rfl
    have e2 : (PyData.int (f y) :: (ys.map f).map PyData.int) = ((y :: ys).map f).map PyData.int := by rw [List.map_cons, List.map_cons]
    have ok : maxOk (PyData.int (f y) :: (ys.map f).map PyData.int) = true := by
      unfold maxOk
      rw [e2, ints_map]; rfl
    have hb : b = f m := by
      have h2' : b ∈ (y :: ys).map f := by rw [List.map_cons]; exact h2
      obtain ⟨z, hz, rfl⟩ := List.mem_map.mp h2'
      exact Int.le_antisymm (ge z hz) (h3 _ (by rw [← List.map_cons]; exact List.mem_map.mpr ⟨m, hm, rfl⟩))
    rw [e]
    show (if maxOk (PyData.int (f y) :: (ys.map f).map PyData.int) = true then some (DV.dat (PySem.W.maxD (.int (f y)) ((ys.map f).map PyData.int))) else none) = _
    rw [if_pos ok, h1, hb]
theorem canLayAll_ints : ∀ l : List Int, PyData.canLayAll0 (l.map PyData.int) = true
  | [] => by simp [PyData.canLayAll0]
  | i :: l => by rw [List.map_cons, PyData.canLayAll0, canLayAll_ints l]; simp [PyData.canLay0]
theorem shaped_ints (l : List Int) : SeqAt.shaped (.list (l.map PyData.int)) = true := by
  unfold SeqAt.shaped
  rw [PyData.canLay0, canLayAll_ints, PyData.depth, depthAll_ints]; rfl
theorem shaped_int (i : Int) : SeqAt.shaped (.int i) = true := by
  unfold SeqAt.shaped
  rw [PyData.canLay0, PyData.depth]; rfl
theorem eqv_int (i j : Int) : PyData.eqv (.int i) (.int j) = decide (i = j) := by simp [PyData.eqv]; rfl
/-- the place of the first of the greatest -/
theorem index_of {α : Type} {f : α → Int} {xs : List α} {j : Nat} {m : α} (F : Frst f xs j m) : dIndex (.dat (.list (xs.map fun x => PyData.int (f x)))) (.dat (.int (f m))) = some (.dat (.int ((j : Nat) : Int))) := by
  have e : xs.map (fun x => PyData.int (f x)) = (xs.map f).map PyData.int := by rw [List.map_map]; rfl
  have hj := (List.getElem?_eq_some_iff.mp F.here).1
  have fi : ((xs.map fun x => PyData.int (f x)).findIdx? fun z => PyData.eqv z (.int (f m))) = some j := by
    rw [List.findIdx?_eq_some_iff_getElem]
    refine ⟨by rw [List.length_map]; exact hj, ?_, fun i hi => ?_⟩
    · rw [List.getElem_map, eqv_int]
      have := (List.getElem?_eq_some_iff.mp F.here).2
      rw [this]; simp
    · have hi' : i < xs.length := by omega
      rw [List.getElem_map, eqv_int]
      have := F.lt i _ hi (List.getElem?_eq_getElem hi')
      rw [decide_eq_false (by omega)]; simp
  show (if SeqAt.shaped (.list (xs.map fun x => PyData.int (f x))) = true ∧ SeqAt.shaped (.int (f m)) = true then _ else none) = _
  rw [if_pos ⟨by rw [e]; exact shaped_ints _, shaped_int _⟩, fi]; rfl
/-! likeness by the law -/
abbrev dT : DV := .dat (.bool true)
theorem alk_int (n : Nat) (i : Int) : F__law_alike (n + 1) [.dat (.int i), .dat (.int i)] = some (dB true) := by
  show fnF 3 (g__law_alike (F__law_alike n)) _ = _
  unfold g__law_alike
  refine fnF_rt ?_
  have t1 : eTru (e1 (dIsi2 "tuple" "list") (eVar 1)) (startD 3 [.dat (.int i), .dat (.int i)]) = some false := rfl
  have t2 : tOrF (eTru (e2 dIs (eVar 1) (eC .none))) (eTru (e1 (dIsi "str") (eVar 1))) (startD 3 [.dat (.int i), .dat (.int i)]) = some false := rfl
  refine (sSeq_nx ((sIf_f t1).trans rfl)).trans ?_
  refine (sSeq_nx ((sIf_f t2).trans rfl)).trans ?_
  refine sSeq_rt (sRet_of ?_)
  unfold eAnd
  rw [e2_of (f1 := eVar 0) (f2 := eVar 1) rfl rfl (eq_int i i), decide_eq_true rfl]
  rfl
theorem alk_bool (n : Nat) (b : Bool) : F__law_alike (n + 1) [dB b, dB b] = some (dB true) := by
  cases b <;> rfl
theorem alk_tup (n : Nat) {ds : List PyData} (hl : ds.length ≤ 100000) (h : ∀ d ∈ ds, F__law_alike n [.dat d, .dat d] = some (dB true)) : F__law_alike (n + 1) [.dat (.tuple ds), .dat (.tuple ds)] = some (dB true) := by
  show fnF 3 (g__law_alike (F__law_alike n)) _ = _
  unfold g__law_alike
  refine fnF_rt ?_
  have t1 : eTru (e1 (dIsi2 "tuple" "list") (eVar 1)) (startD 3 [.dat (.tuple ds), .dat (.tuple ds)]) = some true := rfl
  have t2 : tOrF (tNotF (eTru (e1 (dIsi2 "tuple" "list") (eVar 0)))) (eTru (e2 dNe (e1 (dIsi "list") (eVar 0)) (e1 (dIsi "list") (eVar 1)))) (startD 3 [.dat (.tuple ds), .dat (.tuple ds)]) = some false := rfl
  have t3 : eTru (e2 dNe (e1 dLen (eVar 0)) (e1 dLen (eVar 1))) (startD 3 [.dat (.tuple ds), .dat (.tuple ds)]) = some false := by
    refine (tru_b (e2_of (x := .dat (.int ((ds.length : Nat) : Int))) (y := .dat (.int ((ds.length : Nat) : Int))) rfl rfl (ne_int _ _))).trans ?_
    rw [decide_eq_true rfl]; rfl
  refine sSeq_rt ((sIf_t t1).trans ?_)
  refine (sSeq_nx ((sIf_f t2).trans rfl)).trans ?_
  refine (sSeq_nx ((sIf_f t3).trans rfl)).trans ?_
  have rg : iRange (e1 dLen (eVar 1)) (startD 3 [.dat (.tuple ds), .dat (.tuple ds)]) = some ((List.range ds.length).map iD) := iRange_val rfl hl
  have lc : eLc [2] (iRange (e1 dLen (eVar 1))) (gtN 2) (tNotF (eTru (eCall (F__law_alike n) (aCons (e2 dIx (eVar 0) (eVar 2)) (aCons (e2 dIx (eVar 1) (eVar 2)) aNil))))) (eVar 2) (startD 3 [.dat (.tuple ds), .dat (.tuple ds)]) = some (.dat (.list [])) := by
    rw [eLc_filter (fun _ => false) id rg (by rw [List.length_map, List.length_range]; exact hl)]
    · simp
    · intro d hd
      obtain ⟨i, hi, rfl⟩ := List.mem_map.mp hd
      have hi := List.mem_range.mp hi
      have ix : dIx (.dat (.tuple ds)) (.dat (iD i)) = some (.dat ds[i]) := dIx_tup hi
      have c := h ds[i] (List.getElem_mem hi)
      have c2 : eCall (F__law_alike n) (aCons (e2 dIx (eVar 0) (eVar 2)) (aCons (e2 dIx (eVar 1) (eVar 2)) aNil)) ((wipeD (startD 3 [.dat (.tuple ds), .dat (.tuple ds)]) [2]).set 2 (some (false, .dat (iD i)))) = some (dB true) :=
        eCall_of (xs := [.dat ds[i], .dat ds[i]]) (aCons_of (e2_of rfl rfl ix) (aCons_of (e2_of rfl rfl ix) rfl)) c
      exact tNot_of (tru_b c2)
    · intro d hd z; cases z
  refine sSeq_rt (sRet_of (e2_of lc rfl rfl))
theorem alk_pair (n : Nat) (t : Nat × Nat) : F__law_alike (n + 2) [.dat (pairD t), .dat (pairD t)] = some (dB true) :=
  alk_tup (n + 1) (by show 2 ≤ 100000; decide) fun d hd => by
    rcases List.mem_cons.mp hd with rfl | hd
    · exact alk_int n _
    · rw [List.mem_singleton.mp hd]; exact alk_int n _
theorem alk_row (n : Nat) {ts : List (Nat × Nat)} (hl : ts.length ≤ 100000) : F__law_alike (n + 3) [.dat (.tuple (ts.map pairD)), .dat (.tuple (ts.map pairD))] = some (dB true) :=
  alk_tup (n + 2) (by rw [List.length_map]; exact hl) fun d hd => by
    obtain ⟨t, _, rfl⟩ := List.mem_map.mp hd
    exact alk_pair n t
end K08
end

section
set_option Elab.async false
set_option linter.all false
set_option maxRecDepth 100000
set_option maxHeartbeats 4000000
/-! M22: climbing, by the law: forty turns. -/
namespace K08
open PySem FD
variable {a l k : Nat} {vs : List (List Int)}
abbrev Sl := Option (Bool × DV)
/-- the names of the law: what stands from the start of its rest, then the others -/
def eLw (x1 x2 x3 x4 x5 x6 x7 x8 x9 x10 x11 x12 x13 x14 x15 x16 x17 x18 x19 x20 x21 x22 x23 : Sl) : DE := [none, x1, x2, x3, x4, x5, x6, x7, x8, x9, x10, x11, x12, x13, x14, x15, x16, x17, x18, x19, x20, x21, x22, x23]
def vD (x : DV) : Sl := some (false, x)
/-- the names while it climbs -/
def eTn (x1 x2 x3 x6 x7 x8 x9 : Sl) (a : Nat) (vs : List (List Int)) (cs : List Nat) (up : List (Nat × Nat)) (x5 x19 x20 : Sl) : DE :=
  eLw x1 x2 x3 (vD (valsD vs)) x5 x6 x7 x8 x9 none none none none none none none (vD (chD a cs)) (vD (.dat (.tuple (up.map pairD)))) x19 x20 none none none
def gTurn : DE → Option Out := sClr [5, 19, 20] (sSeq (sSet false 19 (eCall F__law_takings (aCons (eVar 17) aNil))) (sSeq (sSet false 20 (eLc [23] (iSeq (eVar 19)) (gtN 23) tYesF (eCall F__law_worth (aCons (eCall F__law_behind (aCons (eVar 17) (aCons (eVar 23) aNil))) (aCons (eVar 4) aNil))))) (sSeq (sIf (tAndF (eTru (e2 dNe (eVar 19) (eLstL lNil))) (eTru (e2 dGt (e1 dMax (eVar 20)) (eCall F__law_worth (aCons (eVar 17) (aCons (eVar 4) aNil)))))) (sSeq (sSet false 18 (e2 dAdd (eVar 18) (eTupL (lCons (e2 dIx (eVar 19) (e2 dIndex (eVar 20) (e1 dMax (eVar 20)))) lNil)))) (sSeq (sSet false 17 (eCall F__law_behind (aCons (eVar 17) (aCons (e2 dIx (eVar 18) (e1 dNeg (eC (.int 1)))) aNil)))) sNil)) sNil) sNil)))
theorem plain_pair (t : Nat × Nat) : (pairD t).plain = true := by unfold pairD iD; simp [PyData.plain, PyData.plainAll]
theorem plainAll_pairs : ∀ ts : List (Nat × Nat), PyData.plainAll (ts.map pairD) = true
  | [] => rfl
  | t :: ts => by rw [List.map_cons, PyData.plainAll, plainAll_pairs ts, plain_pair]; rfl
theorem ne_pairs (ts : List (Nat × Nat)) : dNe (.dat (.list (ts.map pairD))) (.dat (.list [])) = some (dB (!decide (ts = []))) := by
  have e : eqOk (.list (ts.map pairD)) (.list []) = true := by
    unfold eqOk
    rw [PyData.plain, plainAll_pairs, PyData.plain, PyData.plainAll]
    have : min (PyData.list (ts.map pairD)).depth (PyData.list []).depth ≤ 50 := Nat.le_trans (Nat.min_le_right _ _) (by decide)
    rw [decide_eq_true this]; rfl
  have e2 : PyData.eqv (.list (ts.map pairD)) (.list []) = decide (ts = []) := by
    cases ts with
    | nil => simp [PyData.eqv, PyData.eqvAll]
    | cons c rows => simp [PyData.eqv, PyData.eqvAll]
  show (if eqOk (.list (ts.map pairD)) (.list []) = true then some (dB (!PyData.eqv (.list (ts.map pairD)) (.list []))) else none) = _
  rw [if_pos e, e2]
theorem atI_last {α : Type} (xs : List α) (x : α) : L2.atI (xs ++ [x]) (-1) = some x := by
  unfold L2.atI L2.ixN
  rw [if_neg (by omega), if_pos (by rw [List.length_append, List.length_singleton]; omega), Option.bind_some]
  have : ((-1 : Int) + ((xs ++ [x]).length : Int)).toNat = xs.length := by rw [List.length_append]; simp; omega
  rw [this]; simp
theorem add_tup {xs ys : List PyData} (h : xs.length + ys.length ≤ 100000) : dAdd (.dat (.tuple xs)) (.dat (.tuple ys)) = some (.dat (.tuple (xs ++ ys))) := by
  show (if _ then _ else none) = _
  rw [if_pos h]
theorem turn_ok (D : Dom a l k) (V : VOk9 k (a * l + 1) vs) {x1 x2 x3 x6 x7 x8 x9 x5 : Sl} {cs : List Nat} (hc : cs ∈ mapsN a l k) {up : List (Nat × Nat)} (hu : up.length ≤ 1000) :
    gTurn (eTn x1 x2 x3 x6 x7 x8 x9 a vs cs up x5 none none) = some (.nx (match turnN a l k vs cs with
      | none => eTn x1 x2 x3 x6 x7 x8 x9 a vs cs up none none none
      | some t => eTn x1 x2 x3 x6 x7 x8 x9 a vs (cs.set t.2 t.1) (up ++ [t]) none none none)) := by
  have s1 : sSet false 19 (eCall F__law_takings (aCons (eVar 17) aNil)) (eTn x1 x2 x3 x6 x7 x8 x9 a vs cs up x5 none none) = some (.nx (eTn x1 x2 x3 x6 x7 x8 x9 a vs cs up x5 (vD (.dat (.list ((takN a l k cs).map pairD)))) none)) :=
    sSet_of (eCall_of (xs := [chD a cs]) rfl (D.tak2 cs hc))
  have few : (takN a l k cs).length ≤ 100000 := by
    have h1 : (takN a l k cs).length ≤ 1000 := by
      have C := D.cok cs hc
      have hn := nSmall D
      have hk : k ≤ 3 := by have := D.lk; rcases D.ll with h | h <;> omega
      unfold takN
      rw [List.length_flatMap]
      have : ∀ x ∈ (List.range k).map (fun land => (((List.range cs.length).filter fun cell => madeN a l cs land cell).map fun cell => (land, cell)).length), x ≤ 9 := fun x hx => by
        obtain ⟨land, _, rfl⟩ := List.mem_map.mp hx
        rw [List.length_map]
        have := List.length_filter_le (fun cell => madeN a l cs land cell) (List.range cs.length)
        rw [List.length_range] at this
        have := C.len
        omega
      have key : ∀ ns : List Nat, (∀ x ∈ ns, x ≤ 9) → ns.sum ≤ 9 * ns.length := fun ns => by
        induction ns with
        | nil => intro _; simp
        | cons n ns ih =>
          intro h
          have h1 := h n (by simp)
          have h2 := ih fun x hx => h x (List.mem_cons_of_mem _ hx)
          rw [List.sum_cons, List.length_cons]; omega
      have := key _ this
      rw [List.length_map, List.length_range] at this
      omega
    omega
  have s2 : sSet false 20 (eLc [23] (iSeq (eVar 19)) (gtN 23) tYesF (eCall F__law_worth (aCons (eCall F__law_behind (aCons (eVar 17) (aCons (eVar 23) aNil))) (aCons (eVar 4) aNil)))) (eTn x1 x2 x3 x6 x7 x8 x9 a vs cs up x5 (vD (.dat (.list ((takN a l k cs).map pairD)))) none) = some (.nx (eTn x1 x2 x3 x6 x7 x8 x9 a vs cs up x5 (vD (.dat (.list ((takN a l k cs).map pairD)))) (vD (.dat (.list ((takN a l k cs).map fun t => PyData.int (upF vs cs t))))))) := by
    refine sSet_of (eLc_mapg (xs := takN a l k cs) pairD (fun t => PyData.int (upF vs cs t)) rfl few fun t ht => ?_)
    exact eCall_of (xs := [chD a (cs.set t.2 t.1), valsD vs]) (aCons_of (eCall_of (xs := [chD a cs, .dat (pairD t)]) rfl (D.tkn2 cs hc t ht)) rfl) (lOf D (D.closed cs hc t ht) V)
  have t1 : eTru (e2 dNe (eVar 19) (eLstL lNil)) (eTn x1 x2 x3 x6 x7 x8 x9 a vs cs up x5 (vD (.dat (.list ((takN a l k cs).map pairD)))) (vD (.dat (.list ((takN a l k cs).map fun t => PyData.int (upF vs cs t)))))) = some (!decide (takN a l k cs = [])) :=
    tru_b (e2_of rfl rfl (ne_pairs _))
  unfold gTurn turnN
  by_cases hne : takN a l k cs = []
  · rw [decide_eq_true hne] at t1
    have e : firstN (upF vs cs) (takN a l k cs) = none := by rw [hne]; rfl
    rw [e]
    refine sClr_nx (e := eTn x1 x2 x3 x6 x7 x8 x9 a vs cs up x5 (vD (.dat (.list ((takN a l k cs).map pairD)))) (vD (.dat (.list ((takN a l k cs).map fun t => PyData.int (upF vs cs t)))))) ?_
    refine (sSeq_nx s1).trans ?_
    refine (sSeq_nx s2).trans ?_
    exact (sSeq_nx ((sIf_f (tAnd_f t1)).trans rfl)).trans rfl
  · rw [decide_eq_false hne] at t1
    obtain ⟨j, m, e, F⟩ := firstN_some (f := upF vs cs) hne
    have hm := F.mem
    have hj := (List.getElem?_eq_some_iff.mp F.here)
    have mx : e1 dMax (eVar 20) (eTn x1 x2 x3 x6 x7 x8 x9 a vs cs up x5 (vD (.dat (.list ((takN a l k cs).map pairD)))) (vD (.dat (.list ((takN a l k cs).map fun t => PyData.int (upF vs cs t)))))) = some (.dat (.int (upF vs cs m))) := e1_of rfl (max_of hm F.ge)
    have t2 : eTru (e2 dGt (e1 dMax (eVar 20)) (eCall F__law_worth (aCons (eVar 17) (aCons (eVar 4) aNil)))) (eTn x1 x2 x3 x6 x7 x8 x9 a vs cs up x5 (vD (.dat (.list ((takN a l k cs).map pairD)))) (vD (.dat (.list ((takN a l k cs).map fun t => PyData.int (upF vs cs t)))))) = some (decide (wN vs cs < upF vs cs m)) :=
      tru_b (e2_of mx (eCall_of (xs := [chD a cs, valsD vs]) rfl (lOf D hc V)) (gt_int _ _))
    rw [e]
    dsimp only
    by_cases h : upF vs cs m ≤ wN vs cs
    · rw [decide_eq_false (by omega)] at t2
      rw [if_pos h]
      refine sClr_nx (e := eTn x1 x2 x3 x6 x7 x8 x9 a vs cs up x5 (vD (.dat (.list ((takN a l k cs).map pairD)))) (vD (.dat (.list ((takN a l k cs).map fun t => PyData.int (upF vs cs t)))))) ?_
      refine (sSeq_nx s1).trans ?_
      refine (sSeq_nx s2).trans ?_
      exact (sSeq_nx ((sIf_f ((tAnd_t t1).trans t2)).trans rfl)).trans rfl
    · rw [decide_eq_true (by omega)] at t2
      rw [if_neg h]
      have ix : dIx (.dat (.list ((takN a l k cs).map pairD))) (.dat (.int ((j : Nat) : Int))) = some (.dat (pairD m)) := by
        rw [dIx_lst (by rw [List.length_map]; exact hj.1), List.getElem_map, hj.2]
      have tp : eTupL (lCons (e2 dIx (eVar 19) (e2 dIndex (eVar 20) (e1 dMax (eVar 20)))) lNil) (eTn x1 x2 x3 x6 x7 x8 x9 a vs cs up x5 (vD (.dat (.list ((takN a l k cs).map pairD)))) (vD (.dat (.list ((takN a l k cs).map fun t => PyData.int (upF vs cs t)))))) = some (.dat (.tuple [pairD m])) := by
        have h1 := e2_of (g := dIx) (f1 := eVar 19) (env := eTn x1 x2 x3 x6 x7 x8 x9 a vs cs up x5 (vD (.dat (.list ((takN a l k cs).map pairD)))) (vD (.dat (.list ((takN a l k cs).map fun t => PyData.int (upF vs cs t)))))) rfl (e2_of (g := dIndex) (f1 := eVar 20) rfl mx (index_of F)) ix
        unfold eTupL lCons lNil
        rw [h1]; rfl
      have ad : dAdd (.dat (.tuple (up.map pairD))) (.dat (.tuple [pairD m])) = some (.dat (.tuple ((up ++ [m]).map pairD))) := by
        rw [add_tup (by rw [List.length_map]; show up.length + 1 ≤ 100000; omega), List.map_append]; rfl
      have lx : dIx (.dat (.tuple ((up ++ [m]).map pairD))) (.dat (.int (-1))) = some (.dat (pairD m)) := by
        show (L2.atI _ _).map DV.dat = _
        rw [List.map_append]
        show (L2.atI (up.map pairD ++ [pairD m]) _).map DV.dat = _
        rw [atI_last]; rfl
      refine sClr_nx (e := eTn x1 x2 x3 x6 x7 x8 x9 a vs (cs.set m.2 m.1) (up ++ [m]) x5 (vD (.dat (.list ((takN a l k cs).map pairD)))) (vD (.dat (.list ((takN a l k cs).map fun t => PyData.int (upF vs cs t)))))) ?_
      refine (sSeq_nx s1).trans ?_
      refine (sSeq_nx s2).trans ?_
      refine (sSeq_nx (e := eTn x1 x2 x3 x6 x7 x8 x9 a vs (cs.set m.2 m.1) (up ++ [m]) x5 (vD (.dat (.list ((takN a l k cs).map pairD)))) (vD (.dat (.list ((takN a l k cs).map fun t => PyData.int (upF vs cs t)))))) ((sIf_t ((tAnd_t t1).trans t2)).trans ?_)).trans rfl
      refine (sSeq_nx (e := eTn x1 x2 x3 x6 x7 x8 x9 a vs cs (up ++ [m]) x5 (vD (.dat (.list ((takN a l k cs).map pairD)))) (vD (.dat (.list ((takN a l k cs).map fun t => PyData.int (upF vs cs t)))))) (sSet_of (e2_of rfl tp ad))).trans ?_
      refine (sSeq_nx (sSet_of (eCall_of (xs := [chD a cs, .dat (pairD m)]) (aCons_of rfl (aCons_of (e2_of rfl rfl lx) rfl)) (D.tkn2 cs hc m hm)))).trans rfl
theorem turn_mem {cs : List Nat} {t : Nat × Nat} (h : turnN a l k vs cs = some t) : t ∈ takN a l k cs := by
  unfold turnN at h
  cases e : firstN (upF vs cs) (takN a l k cs) with
  | none => rw [e] at h; cases h
  | some m =>
    rw [e] at h
    dsimp only at h
    have hne : takN a l k cs ≠ [] := fun z => by rw [z] at e; cases e
    obtain ⟨j, m', hm', F⟩ := firstN_some (f := upF vs cs) hne
    rw [e] at hm'
    cases hm'
    split at h
    · cases h
    · cases h; exact F.mem
theorem climb_none {cs : List Nat} (h : turnN a l k vs cs = none) : ∀ n, climbN a l k vs n cs = []
  | 0 => rfl
  | n + 1 => by unfold climbN; rw [h]
theorem turns_ok (D : Dom a l k) (V : VOk9 k (a * l + 1) vs) {x1 x2 x3 x6 x7 x8 x9 : Sl} : ∀ (xs : List Nat) {cs : List Nat} {up : List (Nat × Nat)}, cs ∈ mapsN a l k → up.length + xs.length ≤ 1000 →
    ∃ cs', forGo (gtN 5) gTurn (xs.map iD) (eTn x1 x2 x3 x6 x7 x8 x9 a vs cs up none none none) = some (.nx (eTn x1 x2 x3 x6 x7 x8 x9 a vs cs' (up ++ climbN a l k vs xs.length cs) none none none))
  | [], cs, up, hc, hl => ⟨cs, by
    have e : climbN a l k vs ([] : List Nat).length cs = [] := rfl
    rw [e, List.append_nil]; rfl⟩
  | x :: xs, cs, up, hc, hl => by
    rw [List.length_cons] at hl
    have t := turn_ok D V (x1 := x1) (x2 := x2) (x3 := x3) (x6 := x6) (x7 := x7) (x8 := x8) (x9 := x9) (x5 := vD (.dat (iD x))) hc (up := up) (by omega)
    have step : ∀ e2 : DE, gTurn (eTn x1 x2 x3 x6 x7 x8 x9 a vs cs up (vD (.dat (iD x))) none none) = some (.nx e2) → forGo (gtN 5) gTurn ((x :: xs).map iD) (eTn x1 x2 x3 x6 x7 x8 x9 a vs cs up none none none) = forGo (gtN 5) gTurn (xs.map iD) e2 := fun e2 h => by
      have g : gtN 5 (iD x) (eTn x1 x2 x3 x6 x7 x8 x9 a vs cs up none none none) = some (eTn x1 x2 x3 x6 x7 x8 x9 a vs cs up (vD (.dat (iD x))) none none) := rfl
      rw [List.map_cons]
      show ((gtN 5 (iD x) _).bind _) = _
      rw [g, Option.bind_some, h, Option.bind_some]
    cases e : turnN a l k vs cs with
    | none =>
      rw [e] at t
      obtain ⟨cs', h⟩ := turns_ok D V (x1 := x1) (x2 := x2) (x3 := x3) (x6 := x6) (x7 := x7) (x8 := x8) (x9 := x9) xs hc (up := up) (by omega)
      refine ⟨cs', (step _ t).trans ?_⟩
      rw [climb_none e] at h ⊢
      exact h
    | some m =>
      rw [e] at t
      obtain ⟨cs', h⟩ := turns_ok D V (x1 := x1) (x2 := x2) (x3 := x3) (x6 := x6) (x7 := x7) (x8 := x8) (x9 := x9) xs (D.closed cs hc m (turn_mem e)) (up := up ++ [m]) (by rw [List.length_append]; show up.length + 1 + xs.length ≤ 1000; omega)
      refine ⟨cs', (step _ t).trans ?_⟩
      have e2 : climbN a l k vs (x :: xs).length cs = m :: climbN a l k vs xs.length (cs.set m.2 m.1) := by
        rw [List.length_cons, climbN, e]
      rw [e2]
      rw [List.append_assoc] at h
      exact h
theorem climb_len : ∀ (n : Nat) (cs : List Nat), (climbN a l k vs n cs).length ≤ n
  | 0, _ => Nat.le_refl _
  | n + 1, cs => by
    unfold climbN
    split
    · exact Nat.zero_le _
    · rw [List.length_cons]
      exact Nat.succ_le_succ (climb_len n _)
end K08
end

section
set_option Elab.async false
set_option linter.all false
set_option maxRecDepth 100000
set_option maxHeartbeats 4000000
/-! M23: what the law says of a judge of listed values. -/
namespace K08
open PySem FD
variable {a l k : Nat} {vs : List (List Int)}
theorem eAnd_t {f1 f2 : DE → Option DV} {env : DE} (h : f1 env = some (dB true)) : eAnd f1 f2 env = f2 env := by unfold eAnd; rw [h, Option.bind_some]; rfl
theorem eAnd_f {f1 f2 : DE → Option DV} {env : DE} (h : f1 env = some (dB false)) : eAnd f1 f2 env = some (dB false) := by unfold eAnd; rw [h, Option.bind_some]; rfl
/-! the place of a chart -/
theorem canLay_iD : ∀ x : List Nat, PyData.canLayAll0 (x.map iD) = true
  | [] => by simp [PyData.canLayAll0]
  | i :: x => by rw [List.map_cons, PyData.canLayAll0, canLay_iD x]; simp [iD, PyData.canLay0]
theorem canLay_ch (a : Nat) (x : List Nat) : (chP a x).canLay0 = true := by
  unfold chP tuN
  simp [PyData.canLay0, PyData.canLayAll0, canLay_iD, iD]
theorem canLay_chs (a : Nat) : ∀ xs : LL, PyData.canLayAll0 (xs.map (chP a)) = true
  | [] => by simp [PyData.canLayAll0]
  | x :: xs => by rw [List.map_cons, PyData.canLayAll0, canLay_chs a xs, canLay_ch]; rfl
theorem depth_chs (a : Nat) : ∀ xs : LL, PyData.depthAll (xs.map (chP a)) ≤ 2
  | [] => by rw [List.map_nil, PyData.depthAll]; decide
  | x :: xs => by
    have := depth_chs a xs
    rw [List.map_cons, PyData.depthAll, depth_ch]; omega
theorem shaped_ch (a : Nat) (x : List Nat) : SeqAt.shaped (chP a x) = true := by
  unfold SeqAt.shaped
  rw [canLay_ch, depth_ch]; rfl
theorem shaped_chs (a : Nat) (xs : LL) : SeqAt.shaped (.list (xs.map (chP a))) = true := by
  unfold SeqAt.shaped
  rw [PyData.canLay0, canLay_chs, PyData.depth, decide_eq_true (by have := depth_chs a xs; omega)]; rfl
theorem place_ch {a : Nat} {x : List Nat} {xs : LL} (h : x ∈ xs) : ∃ j : Nat, dIndex (lsD a xs) (chD a x) = some (.dat (.int ((j : Nat) : Int))) ∧ ∃ hj : j < xs.length, xs[j] = x := by
  cases e : (xs.map (chP a)).findIdx? fun z => PyData.eqv z (chP a x) with
  | none =>
    have := (List.findIdx?_eq_none_iff.mp e) (chP a x) (List.mem_map.mpr ⟨x, h, rfl⟩)
    rw [eqv_ch] at this
    simp at this
  | some j =>
    obtain ⟨hj, h1, _⟩ := List.findIdx?_eq_some_iff_getElem.mp e
    rw [List.getElem_map, eqv_ch] at h1
    refine ⟨j, ?_, by rw [List.length_map] at hj; exact hj, of_decide_eq_true h1⟩
    show (if SeqAt.shaped (.list (xs.map (chP a))) = true ∧ SeqAt.shaped (chP a x) = true then _ else none) = _
    rw [if_pos ⟨shaped_chs _ _, shaped_ch _ _⟩, e]; rfl
def smP (vs : List (List Int)) (xs : LL) : PyData := .list (xs.map fun x => PyData.int (wN vs x))
theorem sum_at {a : Nat} {x : List Nat} {xs : LL} (h : x ∈ xs) : (dIndex (lsD a xs) (chD a x)).bind (dIx (.dat (smP vs xs))) = some (.dat (.int (wN vs x))) := by
  obtain ⟨j, h1, hj, h2⟩ := place_ch (a := a) h
  rw [h1, Option.bind_some]
  unfold smP
  rw [dIx_lst (by rw [List.length_map]; exact hj), List.getElem_map, h2]
/-! the names -/
def eJ (r : Addr) (l a k : Nat) (c : List Nat) (vs : List (List Int)) (ev sm : LL) (x10 x11 x12 x13 x14 x15 x16 x21 x22 : Sl) : DE :=
  eLw (vD (.adr r)) (vD (.dat (iD l))) (vD (chD a c)) (vD (valsD vs)) none (vD (.dat (iD a))) (vD (.dat (iD k))) (vD (lsD a ev)) (vD (lsD a sm)) x10 x11 x12 x13 x14 x15 x16 none none none none x21 x22 none
def due1 : DE → Option DV := eAnd (e1 (dIsi "tuple") (eVar 16)) (eAnd (e2 dEq (e1 dLen (eVar 16)) (eC (.int 2))) (eAnd (e2 dEq (e2 dIx (eVar 16) (eC (.int 0))) (eVar 14)) (e1 (dIsi "tuple") (e2 dIx (eVar 16) (eC (.int 1))))))
def due2 : DE → Option DV := eAnd (eVar 21) (eAnd (e2 (dIn false) (e2 dIx (eVar 16) (eC (.int 1))) (eVar 11)) (e2 dEq (e2 dIx (eVar 13) (e2 dIndex (eVar 11) (e2 dIx (eVar 16) (eC (.int 1))))) (eVar 14)))
def told : DE → Option DV := eIf (eTru (e2 dEq (eVar 12) (eC (.int 0)))) (eCall F_shows_best_in_class (aCons (eVar 3) (aCons (eVar 4) (aCons (eVar 16) aNil)))) (eCall F_shows_best_map (aCons (eVar 6) (aCons (eVar 2) (aCons (eVar 4) (aCons (eVar 16) aNil)))))
def gVal : DE → Option Out := sClr [16, 21, 22] (sSeq (sSet false 21 due1) (sSeq (sSet false 21 due2) (sSeq (sSet false 22 told) (sSeq (sIf (tNotF (eTru (eCall (F__law_alike 4) (aCons (eVar 22) (aCons (eVar 21) aNil))))) (sSeq (sRet (eC (.bool false))) sNil) sNil) sNil))))
inductive LV (a l k : Nat) (B : Int) : PyData → Prop
  | map (z : Int) (x : List Nat) : x ∈ mapsN a l k → LV a l k B (partD (z, chP a x))
  | lst (ds : List PyData) : LV a l k B (.list ds)
  | non : LV a l k B .none
  | int (i : Int) : LV a l k B (.int i)
  | badl (ds : List PyData) : LV a l k B (partD (B, .list ds))
  | badc (cs : List Nat) : F_is_map [.dat (chP a cs)] = some (dB false) → LV a l k B (partD (B, chP a cs))
variable {r : Addr} {c : List Nat} {ev sm xs : LL} {x10 x12 x15 : Sl} {B : Int} {G : DV → Option DV}
theorem due1_no {env : DE} {v : PyData} (h : eVar 16 env = some (.dat v)) (hv : dIsi "tuple" (.dat v) = some (dB false)) : due1 env = some (dB false) := eAnd_f (e1_of h hv)
theorem due1_part {env : DE} {z B : Int} {d : PyData} {b : Bool} (h : eVar 16 env = some (.dat (partD (z, d)))) (h2 : eVar 14 env = some (.dat (.int B))) (hd : dIsi "tuple" (.dat d) = some (dB b)) : due1 env = some (dB (decide (z = B) && b)) := by
  unfold due1
  refine (eAnd_t (e1_of h rfl)).trans ?_
  refine (eAnd_t (e2_of (e1_of h (len2 _ _)) rfl rfl)).trans ?_
  have e : e2 dEq (e2 dIx (eVar 16) (eC (.int 0))) (eVar 14) env = some (dB (decide (z = B))) := e2_of (e2_of h rfl (ix0 _ _)) h2 (eq_int _ _)
  by_cases hz : z = B
  · rw [decide_eq_true hz] at e ⊢
    refine (eAnd_t e).trans ?_
    rw [Bool.true_and]
    exact e1_of (e2_of h rfl (ix1 _ _)) hd
  · rw [decide_eq_false hz] at e ⊢
    rw [Bool.false_and]
    exact eAnd_f e
theorem due2_no {env : DE} (h : eVar 21 env = some (dB false)) : due2 env = some (dB false) := eAnd_f h
theorem due2_part {env : DE} {z B : Int} {x : List Nat} (h0 : eVar 21 env = some (dB true)) (h : eVar 16 env = some (.dat (partD (z, chP a x)))) (h1 : eVar 11 env = some (lsD a xs)) (h2 : eVar 14 env = some (.dat (.int B))) (h3 : eVar 13 env = some (.dat (smP vs xs))) :
    due2 env = some (dB (decide (x ∈ xs) && decide (wN vs x = B))) := by
  unfold due2
  refine (eAnd_t h0).trans ?_
  have hx : e2 dIx (eVar 16) (eC (.int 1)) env = some (chD a x) := e2_of h rfl (ix1 _ _)
  have e : e2 (dIn false) (e2 dIx (eVar 16) (eC (.int 1))) (eVar 11) env = some (dB (decide (x ∈ xs))) := by
    rw [e2_of hx h1 (dIn_ls false a x xs), Bool.false_xor]
  by_cases hm : x ∈ xs
  · rw [decide_eq_true hm] at e ⊢
    rw [Bool.true_and]
    refine (eAnd_t e).trans ?_
    have hs := sum_at (vs := vs) (a := a) hm
    obtain ⟨y, hy, hs⟩ := Option.bind_eq_some_iff.mp hs
    exact e2_of (e2_of h3 (e2_of h1 hx hy) hs) h2 (eq_int _ _)
  · rw [decide_eq_false hm] at e ⊢
    rw [Bool.false_and]
    exact eAnd_f e
theorem val_ok (D : Dom a l k) (hs : ∀ x ∈ xs, x ∈ mapsN a l k) (S : Shw a l k vs B xs G) (hT : ∀ (v : PyData) (x21 : Sl), told (eJ r l a k c vs ev sm x10 (vD (lsD a xs)) x12 (vD (.dat (smP vs xs))) (vD (.dat (.int B))) x15 (vD (.dat v)) x21 none) = G (.dat v)) {v : PyData} (L : LV a l k B v) :
    gVal (eJ r l a k c vs ev sm x10 (vD (lsD a xs)) x12 (vD (.dat (smP vs xs))) (vD (.dat (.int B))) x15 (vD (.dat v)) none none) = some (.nx (eJ r l a k c vs ev sm x10 (vD (lsD a xs)) x12 (vD (.dat (smP vs xs))) (vD (.dat (.int B))) x15 none none none)) := by
  have fin : ∀ b1 b : Bool, due1 (eJ r l a k c vs ev sm x10 (vD (lsD a xs)) x12 (vD (.dat (smP vs xs))) (vD (.dat (.int B))) x15 (vD (.dat v)) none none) = some (dB b1) →
      due2 (eJ r l a k c vs ev sm x10 (vD (lsD a xs)) x12 (vD (.dat (smP vs xs))) (vD (.dat (.int B))) x15 (vD (.dat v)) (vD (dB b1)) none) = some (dB b) → G (.dat v) = some (dB b) →
      gVal (eJ r l a k c vs ev sm x10 (vD (lsD a xs)) x12 (vD (.dat (smP vs xs))) (vD (.dat (.int B))) x15 (vD (.dat v)) none none) = some (.nx (eJ r l a k c vs ev sm x10 (vD (lsD a xs)) x12 (vD (.dat (smP vs xs))) (vD (.dat (.int B))) x15 none none none)) := fun b1 b h1 h2 h3 => by
    unfold gVal
    refine sClr_nx (e := eJ r l a k c vs ev sm x10 (vD (lsD a xs)) x12 (vD (.dat (smP vs xs))) (vD (.dat (.int B))) x15 (vD (.dat v)) (vD (dB b)) (vD (dB b))) ?_
    refine (sSeq_nx (sSet_of h1)).trans ?_
    refine (sSeq_nx (sSet_of h2)).trans ?_
    refine (sSeq_nx (sSet_of ((hT v (vD (dB b))).trans h3))).trans ?_
    have al : eCall (F__law_alike 4) (aCons (eVar 22) (aCons (eVar 21) aNil)) (eJ r l a k c vs ev sm x10 (vD (lsD a xs)) x12 (vD (.dat (smP vs xs))) (vD (.dat (.int B))) x15 (vD (.dat v)) (vD (dB b)) (vD (dB b))) = some (dB true) := eCall_of (xs := [dB b, dB b]) rfl (alk_bool 3 b)
    exact (sSeq_nx ((sIf_f (tNot_of (tru_b al))).trans rfl)).trans rfl
  cases L with
  | map z x hx =>
    have g := S.map z x hx
    have h1 := due1_part (env := eJ r l a k c vs ev sm x10 (vD (lsD a xs)) x12 (vD (.dat (smP vs xs))) (vD (.dat (.int B))) x15 (vD (.dat (partD (z, chP a x)))) none none) (z := z) (B := B) (d := chP a x) (b := true) rfl rfl rfl
    rw [Bool.and_true] at h1
    by_cases hz : z = B
    · rw [decide_eq_true hz] at h1 g
      rw [Bool.true_and] at g
      exact fin _ _ h1 (due2_part rfl rfl rfl rfl rfl) g
    · rw [decide_eq_false hz] at h1 g
      rw [Bool.false_and] at g
      exact fin _ _ h1 (due2_no rfl) g
  | lst ds => exact fin _ _ (due1_no rfl (isi_lst ds)) (due2_no rfl) (S.lst ds)
  | non => exact fin _ _ (due1_no rfl isi_non) (due2_no rfl) S.non
  | int i => exact fin _ _ (due1_no rfl (isi_int i)) (due2_no rfl) (S.int i)
  | badl ds =>
    have h1 := due1_part (env := eJ r l a k c vs ev sm x10 (vD (lsD a xs)) x12 (vD (.dat (smP vs xs))) (vD (.dat (.int B))) x15 (vD (.dat (partD (B, .list ds)))) none none) (z := B) (B := B) (d := .list ds) (b := false) rfl rfl rfl
    rw [Bool.and_false] at h1
    exact fin _ _ h1 (due2_no rfl) (S.bad _ (is_map_list ds))
  | badc cs h =>
    have h1 := due1_part (env := eJ r l a k c vs ev sm x10 (vD (lsD a xs)) x12 (vD (.dat (smP vs xs))) (vD (.dat (.int B))) x15 (vD (.dat (partD (B, chP a cs)))) none none) (z := B) (B := B) (d := chP a cs) (b := true) rfl rfl rfl
    rw [Bool.and_true, decide_eq_true rfl] at h1
    have hn : cs ∉ xs := fun z => by
      have := D.isMap cs (hs cs z)
      rw [show F_is_map [chD a cs] = F_is_map [.dat (chP a cs)] from rfl, h] at this
      cases this
    have h2 := due2_part (a := a) (vs := vs) (xs := xs) (env := eJ r l a k c vs ev sm x10 (vD (lsD a xs)) x12 (vD (.dat (smP vs xs))) (vD (.dat (.int B))) x15 (vD (.dat (partD (B, chP a cs)))) (vD (dB true)) none) (z := B) (B := B) (x := cs) rfl rfl rfl rfl rfl
    rw [decide_eq_false hn, Bool.false_and] at h2
    exact fin _ _ h1 h2 (S.bad _ h)
theorem vals_ok (D : Dom a l k) (hs : ∀ x ∈ xs, x ∈ mapsN a l k) (S : Shw a l k vs B xs G) (hT : ∀ (v : PyData) (x21 : Sl), told (eJ r l a k c vs ev sm x10 (vD (lsD a xs)) x12 (vD (.dat (smP vs xs))) (vD (.dat (.int B))) x15 (vD (.dat v)) x21 none) = G (.dat v)) {ds : List PyData} (L : ∀ v ∈ ds, LV a l k B v) :
    forGo (gtN 16) gVal ds (eJ r l a k c vs ev sm x10 (vD (lsD a xs)) x12 (vD (.dat (smP vs xs))) (vD (.dat (.int B))) x15 none none none) = some (.nx (eJ r l a k c vs ev sm x10 (vD (lsD a xs)) x12 (vD (.dat (smP vs xs))) (vD (.dat (.int B))) x15 none none none)) :=
  forGo_const fun v hv => ⟨_, rfl, val_ok D hs S hT (L v hv)⟩
end K08
end

section
set_option Elab.async false
set_option linter.all false
set_option maxRecDepth 100000
set_option maxHeartbeats 4000000
/-! M24: one judge, whole. -/
namespace K08
open PySem FD
variable {a l k : Nat} {vs : List (List Int)} {r : Addr} {c m : List Nat} {ev sm xs : LL} {G : DV → Option DV}
theorem add_lst {xs ys : List PyData} (h : xs.length + ys.length ≤ 100000) : dAdd (.dat (.list xs)) (.dat (.list ys)) = some (.dat (.list (xs ++ ys))) := by
  show (if _ then _ else none) = _
  rw [if_pos h]
def gCond : DE → Option Bool := tOrF (tNotF (eTru (e1 (dIsi "tuple") (eVar 10)))) (tOrF (eTru (e2 dNe (e1 dLen (eVar 10)) (eC (.int 2)))) (tOrF (eTru (e2 dNe (e2 dIx (eVar 10) (eC (.int 0))) (eVar 14))) (tOrF (eTru (e2 (dIn true) (e2 dIx (eVar 10) (eC (.int 1))) (eVar 11))) (eTru (e2 dNe (e2 dIx (eVar 13) (e2 dIndex (eVar 11) (e2 dIx (eVar 10) (eC (.int 1))))) (eVar 14))))))
def gNear : DE → Option DV := eLstL (lCons (eVar 10) (lCons (e1 dList (eVar 10)) (lCons (eTupL (lCons (e2 dAdd (eVar 14) (eC (.int 1))) (lCons (e2 dIx (eVar 10) (eC (.int 1))) lNil))) (lCons (eTupL (lCons (eVar 14) (lCons (e1 dList (e2 dIx (eVar 10) (eC (.int 1)))) lNil))) (lCons (eTupL (lCons (eVar 14) (lCons (eTupL (lCons (eVar 6) (lCons (eTupL lNil) lNil))) lNil))) (lCons (eC .none) (lCons (eC (.int 3)) (lCons (eTupL (lCons (eVar 14) (lCons (eTupL (lCons (eVar 6) (lCons (e2 dRep (eTupL (lCons (eC (.int 0)) lNil)) (e1 dLen (e2 dIx (eVar 3) (eC (.int 1))))) lNil))) lNil))) lNil))))))))
def gSome (i : Nat) : DE → Option DV := eLc [23] (iSeq (eSl (eVar i) pN (pS (eC (.int 20))))) (gtN 23) tYesF (eTupL (lCons (eVar 14) (lCons (eVar 23) lNil)))
def gList : DE → Option (List PyData) := iSeq (e2 dAdd (e2 dAdd (eVar 15) (gSome 8)) (gSome 9))
def gJudge : DE → Option Out := sClr [10, 11, 12, 13, 14, 15, 16, 21, 22] (sSeq (sSet false 13 (eLc [23] (iSeq (eVar 11)) (gtN 23) tYesF (eCall F__law_worth (aCons (eVar 23) (aCons (eVar 4) aNil))))) (sSeq (sSet false 14 (e1 dMax (eVar 13))) (sSeq (sIf gCond (sSeq (sRet (eC (.bool false))) sNil) sNil) (sSeq (sSet false 15 gNear) (sSeq (sFor gList (gtN 16) gVal) sNil)))))
def nearV (a l : Nat) (B : Int) (m : List Nat) : List PyData := [partD (B, chP a m), .list [.int B, chP a m], partD (B + 1, chP a m), partD (B, .list [iD a, tuN m]), partD (B, chP a []), .none, .int 3, partD (B, chP a (List.replicate (a * l + 1) 0))]
theorem rep_zero {n : Nat} (h1 : 2 ≤ n) (h2 : n ≤ 1000) : dRep (.dat (.tuple [.int 0])) (.dat (iD n)) = some (.dat (tuN (List.replicate n 0))) := by
  show (if _ then some (DV.dat (.tuple (List.replicate ((n : Nat) : Int).toNat [PyData.int 0]).flatten)) else none) = _
  rw [if_pos ⟨by simp, by omega, by omega, by simp⟩, Int.toNat_natCast, List.flatten_replicate_singleton]
  unfold tuN
  rw [List.map_replicate]; rfl
theorem near_ok (hl : c.length = a * l + 1) (h2 : 2 ≤ a * l + 1) (h9 : a * l + 1 ≤ 9) {B : Int} {x11 x12 x13 x15 x16 x21 x22 : Sl} :
    gNear (eJ r l a k c vs ev sm (vD (.dat (partD (B, chP a m)))) x11 x12 x13 (vD (.dat (.int B))) x15 x16 x21 x22) = some (.dat (.list (nearV a l B m))) := by
  have hn : e1 dLen (e2 dIx (eVar 3) (eC (.int 1))) (eJ r l a k c vs ev sm (vD (.dat (partD (B, chP a m)))) x11 x12 x13 (vD (.dat (.int B))) x15 x16 x21 x22) = some (.dat (iD (a * l + 1))) := by
    refine e1_of (e2_of rfl rfl (dIx_ch a c)) ?_
    rw [dLen_tu, hl]; rfl
  have ix : e2 dIx (eVar 10) (eC (.int 1)) (eJ r l a k c vs ev sm (vD (.dat (partD (B, chP a m)))) x11 x12 x13 (vD (.dat (.int B))) x15 x16 x21 x22) = some (.dat (chP a m)) := e2_of rfl rfl (ix1 _ _)
  exact eLstL_of (lCons_of rfl (lCons_of rfl (lCons_of (two_of rfl ix) (lCons_of (two_of rfl (e1_of ix rfl)) (lCons_of (two_of rfl (two_of rfl rfl)) (lCons_of rfl (lCons_of rfl (lCons_of (two_of rfl (two_of rfl (e2_of (eTupL_of (lCons_of rfl rfl) (by show 1 ≤ 100000; decide)) hn (rep_zero h2 (by omega))))) rfl)))))))) (by show 8 ≤ 100000; decide)
theorem some_ok {i : Nat} {B : Int} {env : DE} (ys : LL) (hl : ys.length ≤ 1000) (h : eVar i env = some (lsD a ys)) (hB : ∀ x : List Nat, eVar 14 ((wipeD env [23]).set 23 (vD (.dat (chP a x)))) = some (.dat (.int B))) (hx : ∀ x : List Nat, eVar 23 ((wipeD env [23]).set 23 (vD (.dat (chP a x)))) = some (.dat (chP a x))) :
    ∃ n, gSome i env = some (.dat (.list ((ys.take n).map fun x => partD (B, chP a x)))) := by
  refine ⟨HT.sIx ys.length ys.length (some 20) - HT.sIx ys.length 0 none, ?_⟩
  refine eLc_mapg (xs := ys.take _) (chP a) (fun x => partD (B, chP a x)) ?_ (Nat.le_trans (List.length_take_le' _ _) (by omega)) fun x _ => two_of (hB x) (hx x)
  refine iSeq_of ?_
  unfold eSl
  rw [h, Option.bind_some]
  show some (DV.dat (.list (((ys.map (chP a)).drop (HT.sIx (ys.map (chP a)).length 0 none)).take (HT.sIx (ys.map (chP a)).length (ys.map (chP a)).length (some 20) - HT.sIx (ys.map (chP a)).length 0 none)))) = _
  rw [List.length_map, show HT.sIx ys.length 0 none = 0 from rfl, List.drop_zero, List.map_take]
theorem cond_ok (hm : m ∈ xs) {x12 x15 x16 x21 x22 : Sl} :
    gCond (eJ r l a k c vs ev sm (vD (.dat (partD (wP vs a m)))) (vD (lsD a xs)) x12 (vD (.dat (smP vs xs))) (vD (.dat (.int (wN vs m)))) x15 x16 x21 x22) = some false := by
  have ix : e2 dIx (eVar 10) (eC (.int 1)) (eJ r l a k c vs ev sm (vD (.dat (partD (wP vs a m)))) (vD (lsD a xs)) x12 (vD (.dat (smP vs xs))) (vD (.dat (.int (wN vs m)))) x15 x16 x21 x22) = some (chD a m) := e2_of rfl rfl (ix1 _ _)
  have no : ∀ i : Int, dNe (.dat (.int i)) (.dat (.int i)) = some (dB false) := fun i => by rw [ne_int, decide_eq_true rfl]; rfl
  have hs := sum_at (vs := vs) (a := a) hm
  obtain ⟨y, hy, hs⟩ := Option.bind_eq_some_iff.mp hs
  have h4 : e2 (dIn true) (e2 dIx (eVar 10) (eC (.int 1))) (eVar 11) (eJ r l a k c vs ev sm (vD (.dat (partD (wP vs a m)))) (vD (lsD a xs)) x12 (vD (.dat (smP vs xs))) (vD (.dat (.int (wN vs m)))) x15 x16 x21 x22) = some (dB false) := by
    rw [e2_of ix rfl (dIn_ls true a m xs), decide_eq_true hm]; rfl
  unfold gCond
  refine (tOr_f (tNot_of (b := true) rfl)).trans ?_
  refine (tOr_f (tru_b (e2_of (e1_of rfl (len2 _ _)) rfl (no 2)))).trans ?_
  refine (tOr_f (tru_b (e2_of (e2_of rfl rfl (ix0 _ _)) rfl (no _)))).trans ?_
  refine (tOr_f (tru_b h4)).trans ?_
  exact tru_b (e2_of (e2_of rfl (e2_of rfl ix hy) hs) rfl (no _))
theorem judge_ok (D : Dom a l k) (V : VOk9 k (a * l + 1) vs) (hc : c ∈ mapsN a l k) (hev : ∀ x ∈ ev, x ∈ mapsN a l k) (lev : ev.length ≤ 1000) (hsm : ∀ x ∈ sm, x ∈ mapsN a l k) (lsm : sm.length ≤ 1000) (hs : ∀ x ∈ xs, x ∈ mapsN a l k) (lx : xs.length ≤ 1000)
    (bm : Bst vs xs m) (S : Shw a l k vs (wN vs m) xs G) (jd : PyData) (hT : ∀ (v : PyData) (x10 x11 x13 x14 x15 x21 : Sl), told (eJ r l a k c vs ev sm x10 x11 (vD (.dat jd)) x13 x14 x15 (vD (.dat v)) x21 none) = G (.dat v)) :
    gJudge (eJ r l a k c vs ev sm (vD (.dat (partD (wP vs a m)))) (vD (lsD a xs)) (vD (.dat jd)) none none none none none none) = some (.nx (eJ r l a k c vs ev sm none none none none none none none none none)) := by
  have h9 := nSmall D
  have hcl := (D.cok c hc).len
  have h2 : 2 ≤ a * l + 1 := by rcases D.la with rfl | rfl <;> rcases D.ll with rfl | rfl <;> decide
  have mm := hs m bm.mem
  unfold gJudge
  refine sClr_nx (e := eJ r l a k c vs ev sm (vD (.dat (partD (wP vs a m)))) (vD (lsD a xs)) (vD (.dat jd)) (vD (.dat (smP vs xs))) (vD (.dat (.int (wN vs m)))) (vD (.dat (.list (nearV a l (wN vs m) m)))) none none none) ?_
  refine (sSeq_nx (e := eJ r l a k c vs ev sm (vD (.dat (partD (wP vs a m)))) (vD (lsD a xs)) (vD (.dat jd)) (vD (.dat (smP vs xs))) none none none none none) (sSet_of (x := .dat (smP vs xs)) (eLc_mapg (xs := xs) (chP a) (fun x => PyData.int (wN vs x)) rfl (by omega) fun x hx => eCall_of (xs := [chD a x, valsD vs]) rfl (lOf D (hs x hx) V)))).trans ?_
  refine (sSeq_nx (e := eJ r l a k c vs ev sm (vD (.dat (partD (wP vs a m)))) (vD (lsD a xs)) (vD (.dat jd)) (vD (.dat (smP vs xs))) (vD (.dat (.int (wN vs m)))) none none none none) (sSet_of (x := .dat (.int (wN vs m))) (e1_of (x := .dat (smP vs xs)) rfl (max_of bm.mem bm.ge)))).trans ?_
  refine (sSeq_nx ((sIf_f (cond_ok bm.mem)).trans rfl)).trans ?_
  refine (sSeq_nx (e := eJ r l a k c vs ev sm (vD (.dat (partD (wP vs a m)))) (vD (lsD a xs)) (vD (.dat jd)) (vD (.dat (smP vs xs))) (vD (.dat (.int (wN vs m)))) (vD (.dat (.list (nearV a l (wN vs m) m)))) none none none) (sSet_of (x := .dat (.list (nearV a l (wN vs m) m))) (near_ok (B := wN vs m) hcl h2 h9))).trans ?_
  obtain ⟨n1, e1'⟩ := some_ok (a := a) (i := 8) (B := wN vs m) (env := eJ r l a k c vs ev sm (vD (.dat (partD (wP vs a m)))) (vD (lsD a xs)) (vD (.dat jd)) (vD (.dat (smP vs xs))) (vD (.dat (.int (wN vs m)))) (vD (.dat (.list (nearV a l (wN vs m) m)))) none none none) ev lev rfl (fun _ => rfl) (fun _ => rfl)
  obtain ⟨n2, e2'⟩ := some_ok (a := a) (i := 9) (B := wN vs m) (env := eJ r l a k c vs ev sm (vD (.dat (partD (wP vs a m)))) (vD (lsD a xs)) (vD (.dat jd)) (vD (.dat (smP vs xs))) (vD (.dat (.int (wN vs m)))) (vD (.dat (.list (nearV a l (wN vs m) m)))) none none none) sm lsm rfl (fun _ => rfl) (fun _ => rfl)
  have l1 : ((ev.take n1).map fun x => partD (wN vs m, chP a x)).length ≤ 1000 := by rw [List.length_map]; exact Nat.le_trans (List.length_take_le' _ _) lev
  have l2 : ((sm.take n2).map fun x => partD (wN vs m, chP a x)).length ≤ 1000 := by rw [List.length_map]; exact Nat.le_trans (List.length_take_le' _ _) lsm
  have l0 : (nearV a l (wN vs m) m).length = 8 := rfl
  have it : gList (eJ r l a k c vs ev sm (vD (.dat (partD (wP vs a m)))) (vD (lsD a xs)) (vD (.dat jd)) (vD (.dat (smP vs xs))) (vD (.dat (.int (wN vs m)))) (vD (.dat (.list (nearV a l (wN vs m) m)))) none none none) = some ((nearV a l (wN vs m) m ++ (ev.take n1).map fun x => partD (wN vs m, chP a x)) ++ (sm.take n2).map fun x => partD (wN vs m, chP a x)) :=
    iSeq_of (e2_of (e2_of rfl e1' (add_lst (by omega))) e2' (add_lst (by rw [List.length_append]; omega)))
  refine (sSeq_nx ((sFor_of it).trans (vals_ok D hs S (fun v x21 => hT v _ _ _ _ _ x21) fun v hv => ?_))).trans rfl
  rcases List.mem_append.mp hv with hv | hv
  · rcases List.mem_append.mp hv with hv | hv
    · unfold nearV at hv
      simp only [List.mem_cons, List.not_mem_nil, or_false] at hv
      rcases hv with rfl | rfl | rfl | rfl | rfl | rfl | rfl | rfl
      · exact .map _ _ mm
      · exact .lst _
      · exact .map _ _ mm
      · exact .badl _
      · exact .badc _ D.no0
      · exact .non
      · exact .int _
      · exact .badc _ D.no1
    · obtain ⟨x, hx, rfl⟩ := List.mem_map.mp hv
      exact .map _ _ (hev x (List.mem_of_mem_take hx))
  · obtain ⟨x, hx, rfl⟩ := List.mem_map.mp hv
    exact .map _ _ (hsm x (List.mem_of_mem_take hx))
end K08
end

section
set_option Elab.async false
set_option linter.all false
set_option maxRecDepth 100000
set_option maxHeartbeats 4000000
/-! M25: the law behind its draws. -/
namespace K08
open PySem FD
variable {a l k : Nat} {vs : List (List Int)} {r : Addr} {c : List Nat}
/-! sorted -/
theorem intsOf_ch (a : Nat) (x : List Nat) (ds : List PyData) : intsOf (chP a x :: ds) = none := rfl
theorem sortOk_ch (a : Nat) (xs : LL) : sortOk (xs.map (chP a)) = true := by
  have h1 : allAlike (xs.map (chP a)) = true := by
    unfold allAlike
    rw [List.all_eq_true]
    intro x hx
    rw [List.all_eq_true]
    intro y hy
    obtain ⟨p, _, rfl⟩ := List.mem_map.mp hx
    obtain ⟨q, _, rfl⟩ := List.mem_map.mp hy
    exact alike_ch _ _ _ _
  unfold sortOk
  rw [h1, decide_eq_true (by have := depth_chs a xs; omega), Bool.and_true, Bool.true_and, List.all_eq_true]
  intro x hx
  obtain ⟨p, _, rfl⟩ := List.mem_map.mp hx
  rfl
theorem pre_map {α β : Type} {g : α → β} {xs : List α} : ∀ {ys : List β}, (∀ y ∈ ys, ∃ x ∈ xs, y = g x) → ∃ zs : List α, ys = zs.map g ∧ ∀ z ∈ zs, z ∈ xs
  | [], _ => ⟨[], rfl, fun _ h => by cases h⟩
  | y :: ys, h => by
    obtain ⟨x, hx, rfl⟩ := h y (List.mem_cons_self ..)
    obtain ⟨zs, rfl, hz⟩ := pre_map fun z hz => h z (List.mem_cons_of_mem _ hz)
    exact ⟨x :: zs, rfl, fun z hz' => by
      rcases List.mem_cons.mp hz' with rfl | hz'
      · exact hx
      · exact hz z hz'⟩
theorem sorted_ch (a : Nat) {xs : LL} (hne : xs ≠ []) : ∃ zs : LL, dSorted (lsD a xs) = some (lsD a zs) ∧ (∀ z, z ∈ zs ↔ z ∈ xs) ∧ zs.length = xs.length := by
  have p : (sortD (xs.map (chP a))).Perm (xs.map (chP a)) := List.mergeSort_perm _ _
  obtain ⟨zs, e, hz⟩ := pre_map (g := chP a) (xs := xs) (ys := sortD (xs.map (chP a))) fun y hy => by
    obtain ⟨x, hx, rfl⟩ := List.mem_map.mp (p.mem_iff.mp hy)
    exact ⟨x, hx, rfl⟩
  refine ⟨zs, ?_, fun z => ⟨hz z, fun hx => ?_⟩, ?_⟩
  · have e2 : dSorted (lsD a xs) = if sortOk (xs.map (chP a)) = true then some (.dat (.list (sortD (xs.map (chP a))))) else none := by
      cases xs with
      | nil => exact absurd rfl hne
      | cons x xs => rfl
    rw [e2, if_pos (sortOk_ch a xs), e]; rfl
  · have : chP a z ∈ zs.map (chP a) := by rw [← e]; exact p.mem_iff.mpr (List.mem_map.mpr ⟨z, hx, rfl⟩)
    obtain ⟨z', h1, h2⟩ := List.mem_map.mp this
    rw [← (chP_inj h2).2]; exact h1
  · have := p.length_eq
    rw [e, List.length_map, List.length_map] at this
    exact this
theorem every_ok (D : Dom a l k) (hc : c ∈ mapsN a l k) : ∃ ev : LL, ((F__law_from [chD a c]).bind dKeysL).bind dSorted = some (lsD a ev) ∧ (∀ x, x ∈ ev ↔ x ∈ classN a l k c) ∧ ev.length ≤ 1000 := by
  have C := cls_all D hc
  obtain ⟨kvs, h1, h2⟩ := C.law
  have f1 := keys_len h2
  have f2 := len_le_of_subset C.nd C.sub
  have f3 := D.few
  have e4 : kvs.map (fun p => p.1.data) = (classN a l k c).map (chP a) := by
    have := congrArg (List.map NestedKey.data) h2
    rw [List.map_map, List.map_map] at this
    rw [show (fun p : NestedKey × PyData => p.1.data) = (NestedKey.data ∘ fun x => x.1) from rfl, this]
    exact List.map_congr_left fun x _ => data_ch a x
  obtain ⟨ev, q1, q2, q3⟩ := sorted_ch a (List.ne_nil_of_mem C.me)
  refine ⟨ev, ?_, q2, by omega⟩
  rw [h1, Option.bind_some]
  have e5 : dKeysL (.dct kvs) = some (lsD a (classN a l k c)) := by
    show (if (kvs.map fun p => p.1.data).length ≤ 100000 then some (DV.dat (.list (kvs.map fun p => p.1.data))) else none) = _
    rw [if_pos (by rw [List.length_map]; omega), e4]; rfl
  rw [e5, Option.bind_some, q1]
theorem Bst.to {xs ys : LL} {m : List Nat} (b : Bst vs xs m) (h : ∀ x, x ∈ ys ↔ x ∈ xs) : Bst vs ys m := ⟨(h m).mpr b.mem, fun x hx => b.ge x ((h x).mp hx)⟩
theorem Shw.to {B : Int} {xs ys : LL} {G : DV → Option DV} (S : Shw a l k vs B xs G) (h : ∀ x, x ∈ ys ↔ x ∈ xs) : Shw a l k vs B ys G :=
  ⟨fun z x hx => by rw [S.map z x hx, decide_eq_decide.mpr (h x)], S.lst, S.non, S.int, S.bad⟩
/-! the names at the start -/
def eSt (r : Addr) (l a k : Nat) (c : List Nat) (vs : List (List Int)) : DE :=
  eLw (vD (.adr r)) (vD (.dat (iD l))) (vD (chD a c)) (vD (valsD vs)) none (vD (.dat (iD a))) (vD (.dat (iD k))) none none none none none none none none none none none none none none none none
def gItems : DE → Option (List PyData) := iSeq (eLstL (lCons (eTupL (lCons (eCall F_best_in_class (aCons (eVar 3) (aCons (eVar 4) aNil))) (lCons (eVar 8) (lCons (eC (.int 0)) lNil)))) (lCons (eTupL (lCons (eCall F_best_map (aCons (eVar 6) (aCons (eVar 2) (aCons (eVar 4) aNil)))) (lCons (eVar 9) (lCons (eC (.int 1)) lNil)))) lNil)))
def gEvery : DE → Option Out := sPar false 8 false 9 (aCons (e1 dSorted (e1 dKeysL (eCall F__law_from (aCons (eVar 3) aNil)))) (aCons (eCall F__law_maps (aCons (eVar 6) (aCons (eVar 2) (aCons (eVar 7) aNil)))) aNil))
theorem rest_eq : g_rest = sSeq (sIf (tNotF (eTru (eCall (F__law_alike 4) (aCons (eCall F_worth (aCons (eVar 3) (aCons (eVar 4) aNil))) (aCons (eCall F__law_worth (aCons (eVar 3) (aCons (eVar 4) aNil))) aNil))))) (sSeq (sRet (eC (.bool false))) sNil) sNil) (sSeq gEvery (sSeq (sFor gItems (gtT [10, 11, 12]) gJudge) (sSeq (sTup [17, 18] (eTupL (lCons (eVar 3) (lCons (eTupL lNil) lNil)))) (sSeq (sFor (iRange (eC (.int 40))) (gtN 5) gTurn) (sSeq (sRet (eCall (F__law_alike 4) (aCons (eCall F_climb (aCons (eVar 3) (aCons (eVar 4) aNil))) (aCons (eVar 18) aNil)))) sNil))))) := rfl
theorem forGo_nx {gt : PyData → DE → Option DE} {body : DE → Option Out} {d : PyData} {ds : List PyData} {env e1 e2 : DE} (h1 : gt d env = some e1) (h2 : body e1 = some (.nx e2)) : forGo gt body (d :: ds) env = forGo gt body ds e2 := by
  show ((gt d env).bind _) = _
  rw [h1, Option.bind_some, h2, Option.bind_some]
theorem three_of {f1 f2 f3 : DE → Option DV} {env : DE} {x y z : PyData} (h : f1 env = some (.dat x)) (h2 : f2 env = some (.dat y)) (h3 : f3 env = some (.dat z)) : eTupL (lCons f1 (lCons f2 (lCons f3 lNil))) env = some (.dat (.tuple [x, y, z])) :=
  eTupL_of (lCons_of h (lCons_of h2 (lCons_of h3 rfl))) (by show 3 ≤ 100000; decide)
theorem rest_ok (D : Dom a l k) (D2 : Dom2 a l k) (V : VOk9 k (a * l + 1) vs) (hc : c ∈ mapsN a l k) : g_rest (eSt r l a k c vs) = some (.rt (dB true)) := by
  obtain ⟨ev, hev, iff, lev⟩ := every_ok D hc
  have C := cls_all D hc
  obtain ⟨m1, b1, c1, c2⟩ := best_in_class D hc V
  obtain ⟨m2, b2, d1⟩ := best_of_all D D2 V
  have d2 := best_map D V d1
  have S1 := (shows_class D hc V c1).to iff
  have S2 := shows_map D V d1
  have few := D.few
  rw [rest_eq]
  -- worth
  have al : eCall (F__law_alike 4) (aCons (eCall F_worth (aCons (eVar 3) (aCons (eVar 4) aNil))) (aCons (eCall F__law_worth (aCons (eVar 3) (aCons (eVar 4) aNil))) aNil)) (eSt r l a k c vs) = some (dB true) :=
    eCall_of (aCons_of (eCall_of (xs := [chD a c, valsD vs]) rfl (F_worth_ok D hc V)) (aCons_of (eCall_of (xs := [chD a c, valsD vs]) rfl (lOf D hc V)) rfl)) (alk_int 3 _)
  refine (sSeq_nx ((sIf_f (tNot_of (tru_b al))).trans rfl)).trans ?_
  -- every, some
  have se : gEvery (eSt r l a k c vs) = some (.nx (eJ r l a k c vs ev (mapsN a l k) none none none none none none none none none)) := by
    have h1 : e1 dSorted (e1 dKeysL (eCall F__law_from (aCons (eVar 3) aNil))) (eSt r l a k c vs) = some (lsD a ev) := hev
    have h2 : eCall F__law_maps (aCons (eVar 6) (aCons (eVar 2) (aCons (eVar 7) aNil))) (eSt r l a k c vs) = some (lsD a (mapsN a l k)) := eCall_of (xs := [.dat (iD a), .dat (iD l), .dat (iD k)]) rfl D.maps
    unfold gEvery sPar
    rw [aCons_of h1 (aCons_of h2 rfl)]; rfl
  refine (sSeq_nx se).trans ?_
  -- the judges
  have it : gItems (eJ r l a k c vs ev (mapsN a l k) none none none none none none none none none) = some [.tuple [partD (wP vs a m1), .list (ev.map (chP a)), .int 0], .tuple [partD (wP vs a m2), .list ((mapsN a l k).map (chP a)), .int 1]] :=
    iSeq_of (eLstL_of (lCons_of (three_of (eCall_of (xs := [chD a c, valsD vs]) rfl c2) rfl rfl) (lCons_of (three_of (eCall_of (xs := [.dat (iD a), .dat (iD l), valsD vs]) rfl d2) rfl rfl) rfl)) (by show 2 ≤ 100000; decide))
  have j1 := judge_ok (r := r) (c := c) (ev := ev) (sm := mapsN a l k) D V hc (fun x hx => C.sub x ((iff x).mp hx)) lev (fun x hx => hx) few (fun x hx => C.sub x ((iff x).mp hx)) lev (b1.to iff) S1 (.int 0) (fun v _ _ _ _ _ _ => rfl)
  have j2 := judge_ok (r := r) (c := c) (ev := ev) (sm := mapsN a l k) D V hc (fun x hx => C.sub x ((iff x).mp hx)) lev (fun x hx => hx) few (fun x hx => hx) few b2 S2 (.int 1) (fun v _ _ _ _ _ _ => rfl)
  have sj : sFor gItems (gtT [10, 11, 12]) gJudge (eJ r l a k c vs ev (mapsN a l k) none none none none none none none none none) = some (.nx (eJ r l a k c vs ev (mapsN a l k) none none none none none none none none none)) :=
    (sFor_of it).trans ((forGo_nx rfl j1).trans ((forGo_nx rfl j2).trans rfl))
  refine (sSeq_nx sj).trans ?_
  -- climbing
  have st : sTup [17, 18] (eTupL (lCons (eVar 3) (lCons (eTupL lNil) lNil))) (eJ r l a k c vs ev (mapsN a l k) none none none none none none none none none) = some (.nx (eTn (vD (.adr r)) (vD (.dat (iD l))) (vD (chD a c)) (vD (.dat (iD a))) (vD (.dat (iD k))) (vD (lsD a ev)) (vD (lsD a (mapsN a l k))) a vs c [] none none none)) :=
    sTup_of (ds := [chP a c, .tuple []]) (two_of rfl rfl) rfl
  refine (sSeq_nx st).trans ?_
  obtain ⟨cs', ht⟩ := turns_ok D V (x1 := vD (.adr r)) (x2 := vD (.dat (iD l))) (x3 := vD (chD a c)) (x6 := vD (.dat (iD a))) (x7 := vD (.dat (iD k))) (x8 := vD (lsD a ev)) (x9 := vD (lsD a (mapsN a l k))) (List.range 40) hc (up := []) (by rw [List.length_range]; decide)
  rw [List.length_range, List.nil_append] at ht
  refine (sSeq_nx ((sFor_of (iRange_val (k := 40) rfl (by decide))).trans ht)).trans ?_
  refine sSeq_rt (sRet_of (eCall_of (aCons_of (eCall_of (xs := [chD a c, valsD vs]) rfl (climb_ok D V hc)) (aCons_of (x := .dat (.tuple ((climbN a l k vs 40 c).map pairD))) rfl rfl)) (alk_row 1 ?_)))
  have := climb_len (a := a) (l := l) (k := k) (vs := vs) 40 c
  omega
end K08
end

section
set_option Elab.async false
set_option linter.all false
set_option maxRecDepth 100000
set_option maxHeartbeats 4000000
/-! M26: drawn maps. -/
namespace K08
open PySem FD
variable {a l k : Nat} {r : Addr}
theorem pick_ok {ds : List PyData} {Q : DV → Prop} (hne : 0 < ds.length) (hl : ds.length ≤ 1000) (h : ∀ d ∈ ds, Q (.dat d)) : W_pick [.dat (.list ds)] Q := by
  intro r
  show ∃ x, eVar 1 (startD 2 [.adr r, .dat (.list ds)]) = some x ∧ ∃ xs, aCons (e1 dLen (eVar 1)) aNil (startD 2 [.adr r, .dat (.list ds)]) = some xs ∧ W_taken xs fun y => ∃ z, dIx x y = some z ∧ Q z
  refine ⟨.dat (.list ds), rfl, [.dat (.int ((ds.length : Nat) : Int))], rfl, ((ds.length : Nat) : Int), rfl, by omega, by omega, fun d h0 h1 => ?_⟩
  obtain ⟨i, rfl⟩ := Int.eq_ofNat_of_zero_le h0
  have hi : i < ds.length := by omega
  exact ⟨.dat ds[i], dIx_lst hi, h _ (List.getElem_mem hi)⟩
section
variable {α : Type} [DecidableEq α]
def goodN : Nat → List α → Bool
  | 0, _ => true
  | n + 1, left => !left.isEmpty && left.all fun p => goodN n (left.filter fun x => !decide (x = p))
def pkN : Nat → List α → List α → List (List α × List α)
  | 0, left, cuts => [(left, cuts)]
  | n + 1, left, cuts => left.flatMap fun p => pkN n (left.filter fun x => !decide (x = p)) (cuts ++ [p])
theorem forW_pk {body : Ws} {En : DE → List α → List α → Prop} {K : Out → Prop}
    (hb : ∀ env d left cuts (K : Out → Prop), En env left cuts → 0 < left.length → left.length ≤ 1000 → cuts.length ≤ 1000 → (∀ p ∈ left, ∀ env', En env' (left.filter fun x => !decide (x = p)) (cuts ++ [p]) → K (.nx env')) → ∃ e1, gtN 5 d env = some e1 ∧ body e1 K) :
    ∀ (ds : List PyData) (env : DE) (left cuts : List α), En env left cuts → left.length ≤ 1000 → cuts.length + ds.length ≤ 1000 → goodN ds.length left = true → (∀ s ∈ pkN ds.length left cuts, ∀ env', En env' s.1 s.2 → K (.nx env')) → forW (gtN 5) body ds env K
  | [], env, left, cuts, e, _, _, _, h => h (left, cuts) (by rw [List.length_nil, pkN]; simp) env e
  | d :: ds, env, left, cuts, e, hl, hc, hg, h => by
    rw [List.length_cons] at hc hg h
    rw [goodN, Bool.and_eq_true, List.all_eq_true] at hg
    have h0 : 0 < left.length := by
      cases left with
      | nil => exact absurd hg.1 (by simp)
      | cons _ _ => simp
    obtain ⟨e1, g1, g2⟩ := hb env d left cuts (fun o => match o with | .nx e2 => forW (gtN 5) body ds e2 K | .rt x => K (.rt x)) e h0 hl (by omega) fun p hp env' e' =>
      forW_pk hb ds env' _ _ e' (Nat.le_trans (List.length_filter_le _ _) hl) (by rw [List.length_append]; show cuts.length + 1 + ds.length ≤ 1000; omega) (hg.2 p hp) fun s hs env'' e'' =>
        h s (by rw [pkN, List.mem_flatMap]; exact ⟨p, hp, hs⟩) env'' e''
    exact ⟨e1, g1, g2⟩
end
/-! a thing taken out of a list -/
theorem out_of {α : Type} [DecidableEq α] {e : α → PyData} (he : ∀ x y, dNe (.dat (e x)) (.dat (e y)) = some (dB (!decide (x = y)))) {j i q : Nat} {env : DE} {left : List α} {p : α} (h : eVar i env = some (.dat (.list (left.map e)))) (hl : left.length ≤ 1000)
    (h1 : ∀ d : PyData, eVar j ((wipeD env [j]).set j (some (false, .dat d))) = some (.dat d)) (h2 : ∀ d : PyData, eVar q ((wipeD env [j]).set j (some (false, .dat d))) = some (.dat (e p))) :
    eLc [j] (iSeq (eVar i)) (gtN j) (eTru (e2 dNe (eVar j) (eVar q))) (eVar j) env = some (.dat (.list ((left.filter fun x => !decide (x = p)).map e))) := by
  have key : ∀ d ∈ left.map e, eTru (e2 dNe (eVar j) (eVar q)) ((wipeD env [j]).set j (some (false, .dat d))) = some (match dNe (.dat d) (.dat (e p)) with | some (.dat (.bool b)) => b | _ => false) := fun d hd => by
    obtain ⟨x, _, rfl⟩ := List.mem_map.mp hd
    rw [he]
    exact tru_b (e2_of (h1 _) (h2 _) (he x p))
  rw [eLc_filter (fun d => match dNe (.dat d) (.dat (e p)) with | some (.dat (.bool b)) => b | _ => false) id (iSeq_of h) (by rw [List.length_map]; omega) key fun d _ _ => h1 d, List.map_id, List.filter_map]
  refine congrArg (fun z => some (DV.dat (.list (z.map e)))) (List.filter_congr fun x _ => ?_)
  show (match dNe (.dat (e x)) (.dat (e p)) with | some (.dat (.bool b)) => b | _ => false) = _
  rw [he]; rfl
theorem ne_nat (x y : Nat) : dNe (.dat (iD x)) (.dat (iD y)) = some (dB (!decide (x = y))) := by
  show some (dB (!decide ((x : Int) = (y : Int)))) = _
  rw [decide_eq_decide.mpr (show ((x : Int) = (y : Int)) ↔ x = y by omega)]
theorem ne_pair (x y : Nat × Nat) : dNe (.dat (pairD x)) (.dat (pairD y)) = some (dB (!decide (x = y))) := by
  have e : eqOk (pairD x) (pairD y) = true := by
    unfold eqOk
    rw [plain_pair, plain_pair]
    rfl
  have e2 : PyData.eqv (pairD x) (pairD y) = decide (x = y) := by
    have := eqvAll_iD [x.1, x.2] [y.1, y.2]
    unfold pairD
    rw [PyData.eqv]
    show PyData.eqvAll ([x.1, x.2].map iD) ([y.1, y.2].map iD) = _
    rw [this]
    refine decide_eq_decide.mpr ?_
    obtain ⟨x1, x2⟩ := x
    obtain ⟨y1, y2⟩ := y
    simp
  show (if eqOk (pairD x) (pairD y) = true then some (dB (!PyData.eqv (pairD x) (pairD y))) else none) = _
  rw [if_pos e, e2]
/-! the names of the drawing -/
def eM (r : Addr) (a l k : Nat) (x4 x5 x6 x7 x8 x9 x10 : Sl) : DE := [vD (.adr r), vD (.dat (iD a)), vD (.dat (iD l)), vD (.dat (iD k)), x4, x5, x6, x7, x8, x9, x10, none, none, none, none, none, none]
def lP (ts : List (Nat × Nat)) : Sl := vD (.dat (.list (ts.map pairD)))
def lN (ts : List Nat) : Sl := vD (.dat (.list (ts.map iD)))
def gLeft : DE → Option Out := sFor (iRange (eVar 1)) (gtN 4) (sClr [4] (sSeq (sSet false 6 (e2 dAdd (eVar 6) (eLc [14] (iRange (eVar 2)) (gtN 14) tYesF (eTupL (lCons (eVar 4) (lCons (eVar 14) lNil)))))) sNil))
def gCut : DE → Option Out := sSeq (sPar false 7 false 6 (aCons (e2 dAdd (eVar 7) (eLstL (lCons (eVar 8) lNil))) (aCons (eLc [15] (iSeq (eVar 6)) (gtN 15) (eTru (e2 dNe (eVar 15) (eVar 8))) (eVar 15)) aNil))) sNil
def wCut : Ws := wClr [5, 8] (wSeq (wSet 8 (xC W_pick (aCons (eVar 6) aNil))) (wE 0 gCut))
def gOrd : DE → Option Out := sSeq (sPar false 10 false 9 (aCons (e2 dAdd (eVar 10) (eLstL (lCons (eVar 8) lNil))) (aCons (eLc [16] (iSeq (eVar 9)) (gtN 16) (eTru (e2 dNe (eVar 16) (eVar 8))) (eVar 16)) aNil))) sNil
def wOrd : Ws := wClr [] (wSeq (wSet 8 (xC W_pick (aCons (eVar 9) aNil))) (wE 0 gOrd))
def gFin : DE → Option Out := sSeq (sPar true 11 false 12 (aCons (eLstL (lCons (e2 dIx (eVar 10) (eC (.int 0))) lNil)) (aCons (eC (.int 1)) aNil))) (sSeq (sFor (iRange (eVar 1)) (gtN 4) (sClr [13, 14] (sSeq (sSet false 13 (e2 dIx (eVar 10) (eC (.int 0)))) (sSeq (sFor (iRange (eVar 2)) (gtN 14) (sClr [14] (sSeq (sIf (eTru (e2 (dIn false) (eTupL (lCons (eVar 4) (lCons (eVar 14) lNil))) (eVar 7))) (sSeq (sPar false 13 false 12 (aCons (e2 dIx (eVar 10) (eVar 12)) (aCons (e2 dAdd (eVar 12) (eC (.int 1))) aNil))) sNil) sNil) (sSeq (sApp 11 (eVar 13)) sNil)))) sNil)))) (sSeq (sRet (eTupL (lCons (eVar 1) (lCons (e1 dTuple (eRd 11)) lNil)))) sNil))
theorem map_eq : w__law_map = wSeq (wE 0 (sPar false 6 false 7 (aCons (eLstL lNil) (aCons (eLstL lNil) aNil)))) (wSeq (wE 0 gLeft) (wSeq (wFor (iRange (e2 dSub (eVar 3) (eC (.int 1)))) 5 wCut) (wSeq (wE 0 (sPar false 9 false 10 (aCons (e1 dLRange (eVar 3)) (aCons (eLstL lNil) aNil)))) (wSeq (wFor (iRange (eVar 3)) 5 wOrd) (wE 0 gFin))))) := rfl
/-! the turns -/
theorem wClr_of {ws : List Nat} {Wa : Ws} {env : DE} {K : Out → Prop} (h : Wa env fun o => match o with | .nx e => K (.nx (wipeD e ws)) | .rt x => K (.rt x)) : wClr ws Wa env K := h
theorem wSeq_of {Wa Wb : Ws} {env : DE} {K : Out → Prop} (h : Wa env fun o => match o with | .nx e => Wb e K | .rt x => K (.rt x)) : wSeq Wa Wb env K := h
theorem wE_nx {i : Nat} {g : DE → Option Out} {env e : DE} {K : Out → Prop} (h : g env = some (.nx e)) (h0 : e[i]? = env[i]?) (q : K (.nx e)) : wE i g env K := ⟨.nx e, h, h0, q⟩
theorem wE_rt {i : Nat} {g : DE → Option Out} {env : DE} {x : DV} {K : Out → Prop} (h : g env = some (.rt x)) (q : K (.rt x)) : wE i g env K := ⟨.rt x, h, trivial, q⟩
theorem wFor_of {fi : DE → Option (List PyData)} {j : Nat} {Wa : Ws} {env : DE} {K : Out → Prop} {ds : List PyData} (h : fi env = some ds) (q : forW (gtN j) Wa ds env K) : wFor fi j Wa env K := ⟨ds, h, q⟩
theorem pickSet_of {j : Nat} {fa : DE → Option (List DV)} {env : DE} {K : Out → Prop} {ds : List PyData} (h : fa env = some [.dat (.list ds)]) (hne : 0 < ds.length) (hl : ds.length ≤ 1000) (q : ∀ d ∈ ds, K (.nx (env.set j (some (false, .dat d))))) : wSet j (xC W_pick fa) env K :=
  ⟨_, h, pick_ok hne hl q⟩
theorem add_one {α : Type} {e : α → PyData} {xs : List α} {x : α} (hl : xs.length ≤ 1000) : dAdd (.dat (.list (xs.map e))) (.dat (.list [e x])) = some (.dat (.list ((xs ++ [x]).map e))) := by
  rw [add_lst (by rw [List.length_map]; show xs.length + 1 ≤ 100000; omega), List.map_append]; rfl
theorem cut_ok {d : PyData} {left cuts : List (Nat × Nat)} {K : Out → Prop} (h0 : 0 < left.length) (hl : left.length ≤ 1000) (hc : cuts.length ≤ 1000)
    (h : ∀ p ∈ left, K (.nx (eM r a l k none none (lP (left.filter fun x => !decide (x = p))) (lP (cuts ++ [p])) none none none))) : wCut (eM r a l k none (vD (.dat d)) (lP left) (lP cuts) none none none) K := by
  refine wClr_of (wSeq_of (pickSet_of (ds := left.map pairD) rfl (by rw [List.length_map]; exact h0) (by rw [List.length_map]; exact hl) fun x hx => ?_))
  obtain ⟨p, hp, rfl⟩ := List.mem_map.mp hx
  have ad : e2 dAdd (eVar 7) (eLstL (lCons (eVar 8) lNil)) (eM r a l k none (vD (.dat d)) (lP left) (lP cuts) (vD (.dat (pairD p))) none none) = some (.dat (.list ((cuts ++ [p]).map pairD))) :=
    e2_of rfl (eLstL_of (lCons_of rfl rfl) (by show 1 ≤ 100000; decide)) (add_one hc)
  have ou := out_of (e := pairD) ne_pair (j := 15) (i := 6) (q := 8) (env := eM r a l k none (vD (.dat d)) (lP left) (lP cuts) (vD (.dat (pairD p))) none none) (left := left) (p := p) rfl hl (fun _ => rfl) (fun _ => rfl)
  exact wE_nx (e := eM r a l k none (vD (.dat d)) (lP (left.filter fun x => !decide (x = p))) (lP (cuts ++ [p])) (vD (.dat (pairD p))) none none) ((sSeq_nx (sPar_of (aCons_of ad (aCons_of ou rfl)))).trans rfl) rfl (h p hp)
theorem ord_ok {d : PyData} {x6 x7 x8 : Sl} {left cuts : List Nat} {K : Out → Prop} (h0 : 0 < left.length) (hl : left.length ≤ 1000) (hc : cuts.length ≤ 1000)
    (h : ∀ p ∈ left, K (.nx (eM r a l k none (vD (.dat d)) x6 x7 (vD (.dat (iD p))) (lN (left.filter fun x => !decide (x = p))) (lN (cuts ++ [p]))))) : wOrd (eM r a l k none (vD (.dat d)) x6 x7 x8 (lN left) (lN cuts)) K := by
  refine wClr_of (wSeq_of (pickSet_of (ds := left.map iD) rfl (by rw [List.length_map]; exact h0) (by rw [List.length_map]; exact hl) fun x hx => ?_))
  obtain ⟨p, hp, rfl⟩ := List.mem_map.mp hx
  have ad : e2 dAdd (eVar 10) (eLstL (lCons (eVar 8) lNil)) (eM r a l k none (vD (.dat d)) x6 x7 (vD (.dat (iD p))) (lN left) (lN cuts)) = some (.dat (.list ((cuts ++ [p]).map iD))) :=
    e2_of rfl (eLstL_of (lCons_of rfl rfl) (by show 1 ≤ 100000; decide)) (add_one hc)
  have ou := out_of (e := iD) ne_nat (j := 16) (i := 9) (q := 8) (env := eM r a l k none (vD (.dat d)) x6 x7 (vD (.dat (iD p))) (lN left) (lN cuts)) (left := left) (p := p) rfl hl (fun _ => rfl) (fun _ => rfl)
  exact wE_nx (e := eM r a l k none (vD (.dat d)) x6 x7 (vD (.dat (iD p))) (lN (left.filter fun x => !decide (x = p))) (lN (cuts ++ [p]))) ((sSeq_nx (sPar_of (aCons_of ad (aCons_of ou rfl)))).trans rfl) rfl (h p hp)
/-! the drawn map, whole -/
def gridN (a l : Nat) : List (Nat × Nat) := (List.range a).flatMap fun i => (List.range l).map fun j => (i, j)
def finOk (a l k : Nat) (env : DE) : Bool := match gFin env with
  | some (.rt (.dat d)) => (mapsN a l k).any fun cs => sameD d (chP a cs)
  | _ => false
def chkDraw (r : Addr) (x5 x8 : Sl) (a l k : Nat) : Bool := (pkN (k - 1) (gridN a l) []).all fun s => (pkN k (List.range k) []).all fun t => finOk a l k (eM r a l k none x5 (lP s.1) (lP s.2) x8 (lN t.1) (lN t.2))
theorem map_of {Q : DV → Prop} (hk : 1 ≤ k) (hk2 : k ≤ 10) (hg : (gridN a l).length ≤ 100) (hL : ∀ r : Addr, gLeft (eM r a l k none none (lP []) (lP []) none none none) = some (.nx (eM r a l k none none (lP (gridN a l)) (lP []) none none none)))
    (g1 : goodN (k - 1) (gridN a l) = true) (g2 : goodN k (List.range k) = true) (hD : ∀ (r : Addr) (x5 x8 : Sl), chkDraw r x5 x8 a l k = true) (h : ∀ cs ∈ mapsN a l k, Q (chD a cs)) : W_map [.dat (iD a), .dat (iD l), .dat (iD k)] Q := by
  intro r
  rw [map_eq]
  refine wSeq_of (wE_nx (e := eM r a l k none none (lP []) (lP []) none none none) rfl rfl ?_)
  refine wSeq_of (wE_nx (hL r) rfl ?_)
  have hr : iRange (e2 dSub (eVar 3) (eC (.int 1))) (eM r a l k none none (lP (gridN a l)) (lP []) none none none) = some ((List.range (k - 1)).map iD) := by
    refine iRange_val (k := k - 1) ?_ (by omega)
    show some (DV.dat (.int ((k : Int) - 1))) = some (DV.dat (.int ((k - 1 : Nat) : Int)))
    rw [show ((k - 1 : Nat) : Int) = (k : Int) - 1 by omega]
  refine wSeq_of (wFor_of hr ?_)
  refine forW_pk (En := fun env left cuts => env = eM r a l k none none (lP left) (lP cuts) none none none) (fun env d left cuts K e h0 hl hc q => ?_) _ _ (gridN a l) [] rfl (by omega) (by rw [List.length_map, List.length_range]; show 0 + (k - 1) ≤ 1000; omega) (by rw [List.length_map, List.length_range]; exact g1) fun s hs env' e' => ?_
  · subst e
    exact ⟨_, rfl, cut_ok h0 hl hc fun p hp => q p hp _ rfl⟩
  · subst e'
    rw [List.length_map, List.length_range] at hs
    have dl : e1 dLRange (eVar 3) (eM r a l k none none (lP s.1) (lP s.2) none none none) = some (.dat (.list ((List.range k).map iD))) := by
      show (if 0 ≤ (k : Int) ∧ (k : Int) ≤ 100000 then some (DV.dat (.list (rngD (k : Int).toNat))) else none) = _
      rw [if_pos (by omega), Int.toNat_natCast]; rfl
    refine wSeq_of (wE_nx (e := eM r a l k none none (lP s.1) (lP s.2) none (lN (List.range k)) (lN [])) (sPar_of (aCons_of dl (aCons_of (x := .dat (.list [])) rfl rfl))) rfl ?_)
    refine wSeq_of (wFor_of (ds := (List.range k).map iD) (iRange_val (k := k) rfl (by omega)) ?_)
    refine forW_pk (En := fun env left cuts => ∃ x5 x8, env = eM r a l k none x5 (lP s.1) (lP s.2) x8 (lN left) (lN cuts)) (fun env d left cuts K e h0 hl hc q => ?_) _ _ (List.range k) [] ⟨none, none, rfl⟩ (by rw [List.length_range]; omega) (by rw [List.length_map, List.length_range]; show 0 + k ≤ 1000; omega) (by rw [List.length_map, List.length_range]; exact g2) fun t ht env' e' => ?_
    · obtain ⟨x5, x8, rfl⟩ := e
      exact ⟨_, rfl, ord_ok h0 hl hc fun p hp => q p hp _ ⟨_, _, rfl⟩⟩
    · obtain ⟨x5, x8, rfl⟩ := e'
      rw [List.length_map, List.length_range] at ht
      have f := List.all_eq_true.mp (List.all_eq_true.mp (hD r x5 x8) s hs) t ht
      unfold finOk at f
      split at f
      · rename_i d hd
        obtain ⟨cs, hcs, e⟩ := List.any_eq_true.mp f
        refine wE_rt hd ?_
        rw [sameD_eq e]
        exact h cs hcs
      · cases f
end K08
end

section
set_option Elab.async false
set_option linter.all false
set_option maxRecDepth 100000
set_option maxHeartbeats 0
/-! M27: the kernel's check of the drawn maps. -/
namespace K08
open PySem FD
theorem dr312 : ∀ (r : Addr) (x5 x8 : Sl), chkDraw r x5 x8 3 1 2 = true := fun r x5 x8 => by kernel_rfl
theorem dl312 : ∀ r : Addr, gLeft (eM r 3 1 2 none none (lP []) (lP []) none none none) = some (.nx (eM r 3 1 2 none none (lP (gridN 3 1)) (lP []) none none none)) := fun r => by kernel_rfl
theorem dg312 : (Nat.ble (gridN 3 1).length 100 && (goodN (2 - 1) (gridN 3 1) && goodN 2 (List.range 2))) = true := by kernel_rfl
theorem dr412 : ∀ (r : Addr) (x5 x8 : Sl), chkDraw r x5 x8 4 1 2 = true := fun r x5 x8 => by kernel_rfl
theorem dl412 : ∀ r : Addr, gLeft (eM r 4 1 2 none none (lP []) (lP []) none none none) = some (.nx (eM r 4 1 2 none none (lP (gridN 4 1)) (lP []) none none none)) := fun r => by kernel_rfl
theorem dg412 : (Nat.ble (gridN 4 1).length 100 && (goodN (2 - 1) (gridN 4 1) && goodN 2 (List.range 2))) = true := by kernel_rfl
theorem dr322 : ∀ (r : Addr) (x5 x8 : Sl), chkDraw r x5 x8 3 2 2 = true := fun r x5 x8 => by kernel_rfl
theorem dl322 : ∀ r : Addr, gLeft (eM r 3 2 2 none none (lP []) (lP []) none none none) = some (.nx (eM r 3 2 2 none none (lP (gridN 3 2)) (lP []) none none none)) := fun r => by kernel_rfl
theorem dg322 : (Nat.ble (gridN 3 2).length 100 && (goodN (2 - 1) (gridN 3 2) && goodN 2 (List.range 2))) = true := by kernel_rfl
theorem dr422 : ∀ (r : Addr) (x5 x8 : Sl), chkDraw r x5 x8 4 2 2 = true := fun r x5 x8 => by kernel_rfl
theorem dl422 : ∀ r : Addr, gLeft (eM r 4 2 2 none none (lP []) (lP []) none none none) = some (.nx (eM r 4 2 2 none none (lP (gridN 4 2)) (lP []) none none none)) := fun r => by kernel_rfl
theorem dg422 : (Nat.ble (gridN 4 2).length 100 && (goodN (2 - 1) (gridN 4 2) && goodN 2 (List.range 2))) = true := by kernel_rfl
theorem dr323 : ∀ (r : Addr) (x5 x8 : Sl), chkDraw r x5 x8 3 2 3 = true := fun r x5 x8 => by kernel_rfl
theorem dl323 : ∀ r : Addr, gLeft (eM r 3 2 3 none none (lP []) (lP []) none none none) = some (.nx (eM r 3 2 3 none none (lP (gridN 3 2)) (lP []) none none none)) := fun r => by kernel_rfl
theorem dg323 : (Nat.ble (gridN 3 2).length 100 && (goodN (3 - 1) (gridN 3 2) && goodN 3 (List.range 3))) = true := by kernel_rfl
theorem dr423 : ∀ (r : Addr) (x5 x8 : Sl), chkDraw r x5 x8 4 2 3 = true := fun r x5 x8 => by kernel_rfl
theorem dl423 : ∀ r : Addr, gLeft (eM r 4 2 3 none none (lP []) (lP []) none none none) = some (.nx (eM r 4 2 3 none none (lP (gridN 4 2)) (lP []) none none none)) := fun r => by kernel_rfl
theorem dg423 : (Nat.ble (gridN 4 2).length 100 && (goodN (3 - 1) (gridN 4 2) && goodN 3 (List.range 3))) = true := by kernel_rfl
theorem map_of' {a l k : Nat} {Q : DV → Prop} (hk : 1 ≤ k) (hk2 : k ≤ 10) (hL : ∀ r : Addr, gLeft (eM r a l k none none (lP []) (lP []) none none none) = some (.nx (eM r a l k none none (lP (gridN a l)) (lP []) none none none)))
    (g : (Nat.ble (gridN a l).length 100 && (goodN (k - 1) (gridN a l) && goodN k (List.range k))) = true) (hD : ∀ (r : Addr) (x5 x8 : Sl), chkDraw r x5 x8 a l k = true) (h : ∀ cs ∈ mapsN a l k, Q (chD a cs)) : W_map [.dat (iD a), .dat (iD l), .dat (iD k)] Q := by
  rw [Bool.and_eq_true, Bool.and_eq_true] at g
  exact map_of hk hk2 (Nat.le_of_ble_eq_true g.1) hL g.2.1 g.2.2 hD h
/-- every drawn map is a map of the island -/
theorem maps_drawn {a l k : Nat} (la : a = 3 ∨ a = 4) (h : (l = 1 ∧ k = 2) ∨ (l = 2 ∧ (k = 2 ∨ k = 3))) {Q : DV → Prop} (q : ∀ cs ∈ mapsN a l k, Q (chD a cs)) : W_map [.dat (iD a), .dat (iD l), .dat (iD k)] Q := by
  rcases la with rfl | rfl <;> rcases h with ⟨rfl, rfl⟩ | ⟨rfl, rfl | rfl⟩
  · exact map_of' (by decide) (by decide) dl312 dg312 dr312 q
  · exact map_of' (by decide) (by decide) dl322 dg322 dr322 q
  · exact map_of' (by decide) (by decide) dl323 dg323 dr323 q
  · exact map_of' (by decide) (by decide) dl412 dg412 dr412 q
  · exact map_of' (by decide) (by decide) dl422 dg422 dr422 q
  · exact map_of' (by decide) (by decide) dl423 dg423 dr423 q
end K08
end

section
set_option Elab.async false
set_option linter.all false
set_option maxRecDepth 100000
set_option maxHeartbeats 4000000
/-! M28: drawn values. -/
namespace K08
open PySem FD
theorem lcW_of {P : PyData → Prop} {j : Nat} {We : Wx} {env : DE} : ∀ {ds : List PyData} {Q : List PyData → Prop}, (∀ d ∈ ds, ∀ K : DV → Prop, (∀ z, P z → K (.dat z)) → We ((wipeD env [j]).set j (some (false, .dat d))) K) →
    (∀ rs, rs.length = ds.length → (∀ x ∈ rs, P x) → Q rs) → lcW j We env ds Q
  | [], Q, _, q => q [] rfl fun _ h => by cases h
  | d :: ds, Q, h, q => by
    refine h d (List.mem_cons_self ..) _ fun z hz => ⟨z, rfl, ?_⟩
    refine lcW_of (fun e he => h e (List.mem_cons_of_mem _ he)) fun rs hl hr => q (z :: rs) (by rw [List.length_cons, List.length_cons, hl]) fun x hx => ?_
    rcases List.mem_cons.mp hx with rfl | hx
    · exact hz
    · exact hr x hx
theorem choose_map {α β : Type} {g : α → β} {P : α → Prop} : ∀ {ys : List β}, (∀ y ∈ ys, ∃ x, P x ∧ y = g x) → ∃ zs : List α, ys = zs.map g ∧ ∀ z ∈ zs, P z
  | [], _ => ⟨[], rfl, fun _ h => by cases h⟩
  | y :: ys, h => by
    obtain ⟨x, hx, rfl⟩ := h y (List.mem_cons_self ..)
    obtain ⟨zs, rfl, hz⟩ := choose_map fun z hz => h z (List.mem_cons_of_mem _ hz)
    exact ⟨x :: zs, rfl, fun z hz' => by
      rcases List.mem_cons.mp hz' with rfl | hz'
      · exact hx
      · exact hz z hz'⟩
def PI9 (z : PyData) : Prop := ∃ i : Int, (-8 ≤ i ∧ i ≤ 8) ∧ z = .int i
def PR9 (n : Nat) (z : PyData) : Prop := ∃ row : List Int, (row.length = n ∧ ∀ i ∈ row, -8 ≤ i ∧ i ≤ 8) ∧ z = .tuple (row.map PyData.int)
def xCell : Wx := x2 dSub (xC W_taken (aCons (eC (.int 17)) aNil)) (xE (eC (.int 8)))
def xRow : Wx := x1 dTuple (xLc 4 (iRange (eVar 2)) xCell)
theorem cell_ok {env : DE} {K : DV → Prop} (h : ∀ z, PI9 z → K (.dat z)) : xCell env K := by
  refine ⟨[.dat (.int 17)], rfl, 17, rfl, by decide, by decide, fun d h0 h1 => ⟨.dat (.int 8), rfl, .dat (.int (d - 8)), rfl, h _ ⟨d - 8, ⟨by omega, by omega⟩, rfl⟩⟩⟩
theorem row_ok {n : Nat} {env : DE} (hn : n ≤ 1000) (h2 : eVar 2 env = some (.dat (iD n))) {K : DV → Prop} (h : ∀ z, PR9 n z → K (.dat z)) : xRow env K := by
  refine ⟨(List.range n).map iD, iRange_val h2 (by omega), by rw [List.length_map, List.length_range]; omega, ?_⟩
  refine lcW_of (P := PI9) (fun d _ K' hK => cell_ok hK) fun rs hl hr => ⟨.dat (.tuple rs), rfl, h _ ?_⟩
  obtain ⟨zs, rfl, hz⟩ := choose_map hr
  rw [List.length_map, List.length_map, List.length_range] at hl
  exact ⟨zs, ⟨hl, hz⟩, rfl⟩
theorem table_ok {k n : Nat} (hk : k ≤ 1000) (hn : n ≤ 1000) {Q : DV → Prop} (h : ∀ vs, VOk9 k n vs → Q (valsD vs)) : W_table [.dat (iD k), .dat (iD n)] Q := by
  intro r
  have e : w__law_table = wSeq (wRet (x1 dTuple (xLc 3 (iRange (eVar 1)) xRow))) (wE 0 sNil) := rfl
  rw [e]
  refine ⟨(List.range k).map iD, iRange_val (k := k) rfl (by omega), by rw [List.length_map, List.length_range]; omega, ?_⟩
  refine lcW_of (P := PR9 n) (fun d _ K' hK => row_ok hn rfl hK) fun rs hl hr => ⟨.dat (.tuple rs), rfl, ?_⟩
  obtain ⟨zs, rfl, hz⟩ := choose_map hr
  rw [List.length_map, List.length_map, List.length_range] at hl
  exact h zs ⟨hl, fun row hr => (hz row hr).1, fun row hr => (hz row hr).2⟩
end K08
end

section
set_option Elab.async false
set_option linter.all false
set_option maxRecDepth 100000
set_option maxHeartbeats 4000000
/-! MD: the facts of the six kinds of island. -/
namespace K08
open PySem FD
theorem chunk_mem {a l k m : Nat} {cs : List Nat} (h : cs ∈ mapsN a l k) (hm : (mapsN a l k).length ≤ 15 * m) : ∃ i, i < m ∧ cs ∈ chunk a l k i := by
  obtain ⟨j, hj, e⟩ := List.getElem_of_mem h
  refine ⟨j / 15, by omega, ?_⟩
  unfold chunk
  rw [List.mem_iff_getElem]
  refine ⟨j % 15, ?_, ?_⟩
  · rw [List.length_take, List.length_drop]; omega
  · rw [List.getElem_take, List.getElem_drop]
    have : 15 * (j / 15) + j % 15 = j := by omega
    simp only [this]
    exact e
theorem dom_of {a l k m : Nat} (la : a = 3 ∨ a = 4) (ll : l = 1 ∨ l = 2) (lk : 2 ≤ k ∧ k ≤ l + 1) (hm : m ≤ 60)
    (hc : ∀ i, i < m → ((chunk a l k i).all fun cs => chk1 a l k cs) = true) (hl : Nat.ble (mapsN a l k).length (15 * m) = true)
    (ha : isD (F__law_maps [.dat (iD a), .dat (iD l), .dat (iD k)]) (.list ((mapsN a l k).map (chP a))) = true) (hn : chkNo a l = true) (hi : chkIn2 a l k = true) : Dom a l k := by
  have hle : (mapsN a l k).length ≤ 15 * m := Nat.le_of_ble_eq_true hl
  have all : ∀ cs ∈ mapsN a l k, chk1 a l k cs = true := fun cs h => by
    obtain ⟨i, h1, h2⟩ := chunk_mem h hle
    exact List.all_eq_true.mp (hc i h1) cs h2
  have parts : ∀ cs ∈ mapsN a l k, ((cs.length = a * l + 1 ∧ ∀ c ∈ cs, c < k) ∧ isD (F_is_map [chD a cs]) (.bool true) = true ∧ isD (F_lands_of [chD a cs]) (iD k) = true ∧ isD (F_length_of [chD a cs]) (iD l) = true ∧
      isD (F_all_takings [chD a cs]) (.list ((takN a l k cs).map pairD)) = true ∧ isD (takT [chD a cs]) (.list ((takN a l k cs).map pairD)) = true ∧
      ∀ t ∈ takN a l k cs, isD (F_taken [chD a cs, .dat (pairD t)]) (chP a (cs.set t.2 t.1)) = true ∧ isD (F__law_behind [chD a cs, .dat (pairD t)]) (chP a (cs.set t.2 t.1)) = true) := fun cs h => by
    have z := all cs h
    unfold chk1 at z
    simp only [Bool.and_eq_true, List.all_eq_true, decide_eq_true_eq] at z
    exact z
  have no : isD (F_is_map [.dat (chP a [])]) (.bool false) = true ∧ isD (F_is_map [.dat (chP a (List.replicate (a * l + 1) 0))]) (.bool false) = true := by
    unfold chkNo at hn
    rwa [Bool.and_eq_true] at hn
  exact {
    la := la, ll := ll, lk := lk
    maps := isD_eq ha
    isMap := fun cs h => isD_eq (parts cs h).2.1
    lands := fun cs h => isD_eq (parts cs h).2.2.1
    len := fun cs h => isD_eq (parts cs h).2.2.2.1
    tak := fun cs h => isD_eq (parts cs h).2.2.2.2.1
    tak2 := fun cs h => by rw [takT_eq]; exact isD_eq (parts cs h).2.2.2.2.2.1
    tkn := fun cs h t ht => isD_eq ((parts cs h).2.2.2.2.2.2 t ht).1
    tkn2 := fun cs h t ht => isD_eq ((parts cs h).2.2.2.2.2.2 t ht).2
    closed := fun cs h t ht => by
      have z := List.all_eq_true.mp (List.all_eq_true.mp hi cs h) t ht
      obtain ⟨x, hx, ex⟩ := List.any_eq_true.mp z
      rw [← beq_iff_eq.mp ex]; exact hx
    cok := fun cs h => ⟨(parts cs h).1.1, (parts cs h).1.2⟩
    few := by omega
    no0 := isD_eq no.1
    no1 := isD_eq no.2 }
theorem cc312 : ∀ i, i < 1 → ((chunk 3 1 2 i).all fun cs => chk1 3 1 2 cs) = true
  | 0, _ => ck312_0
  | n + 1, h => absurd h (by omega)
theorem dm312 : Dom 3 1 2 := dom_of (m := 1) (by omega) (by omega) (by omega) (by omega) cc312 ckl312 cka312 ckn312 cki312
theorem cc412 : ∀ i, i < 1 → ((chunk 4 1 2 i).all fun cs => chk1 4 1 2 cs) = true
  | 0, _ => ck412_0
  | n + 1, h => absurd h (by omega)
theorem dm412 : Dom 4 1 2 := dom_of (m := 1) (by omega) (by omega) (by omega) (by omega) cc412 ckl412 cka412 ckn412 cki412
theorem cc322 : ∀ i, i < 1 → ((chunk 3 2 2 i).all fun cs => chk1 3 2 2 cs) = true
  | 0, _ => ck322_0
  | n + 1, h => absurd h (by omega)
theorem dm322 : Dom 3 2 2 := dom_of (m := 1) (by omega) (by omega) (by omega) (by omega) cc322 ckl322 cka322 ckn322 cki322
theorem cc422 : ∀ i, i < 2 → ((chunk 4 2 2 i).all fun cs => chk1 4 2 2 cs) = true
  | 0, _ => ck422_0
  | 1, _ => ck422_1
  | n + 2, h => absurd h (by omega)
theorem dm422 : Dom 4 2 2 := dom_of (m := 2) (by omega) (by omega) (by omega) (by omega) cc422 ckl422 cka422 ckn422 cki422
theorem cc323 : ∀ i, i < 6 → ((chunk 3 2 3 i).all fun cs => chk1 3 2 3 cs) = true
  | 0, _ => ck323_0
  | 1, _ => ck323_1
  | 2, _ => ck323_2
  | 3, _ => ck323_3
  | 4, _ => ck323_4
  | 5, _ => ck323_5
  | n + 6, h => absurd h (by omega)
theorem dm323 : Dom 3 2 3 := dom_of (m := 6) (by omega) (by omega) (by omega) (by omega) cc323 ckl323 cka323 ckn323 cki323
theorem cc423 : ∀ i, i < 12 → ((chunk 4 2 3 i).all fun cs => chk1 4 2 3 cs) = true
  | 0, _ => ck423_0
  | 1, _ => ck423_1
  | 2, _ => ck423_2
  | 3, _ => ck423_3
  | 4, _ => ck423_4
  | 5, _ => ck423_5
  | 6, _ => ck423_6
  | 7, _ => ck423_7
  | 8, _ => ck423_8
  | 9, _ => ck423_9
  | 10, _ => ck423_10
  | 11, _ => ck423_11
  | n + 12, h => absurd h (by omega)
theorem dm423 : Dom 4 2 3 := dom_of (m := 12) (by omega) (by omega) (by omega) (by omega) cc423 ckl423 cka423 ckn423 cki423
/-- both, for every kind of island the law draws -/
theorem doms {a l k : Nat} (la : a = 3 ∨ a = 4) (h : (l = 1 ∧ k = 2) ∨ (l = 2 ∧ (k = 2 ∨ k = 3))) : Dom a l k ∧ Dom2 a l k := by
  rcases la with rfl | rfl <;> rcases h with ⟨rfl, rfl⟩ | ⟨rfl, rfl | rfl⟩
  · exact ⟨dm312, dom2_of hb312⟩
  · exact ⟨dm322, dom2_of hb322⟩
  · exact ⟨dm323, dom2_of hb323⟩
  · exact ⟨dm412, dom2_of hb412⟩
  · exact ⟨dm422, dom2_of hb422⟩
  · exact ⟨dm423, dom2_of hb423⟩
end K08
end

section
set_option Elab.async false
set_option linter.all false
set_option maxRecDepth 100000
set_option maxHeartbeats 4000000
/-! M29: the law, at every draw. -/
namespace K08
open PySem FD
theorem w_law_eq : w_law = wSeq (wSet 2 (x2 dAdd (xE (eC (.int 1))) (xC W_taken (aCons (eC (.int 2)) aNil)))) (wSeq (wPar 6 7 (x2 dAdd (xE (eC (.int 3))) (xC W_taken (aCons (eC (.int 2)) aNil))) (x2 dAdd (xE (eC (.int 2))) (xC W_taken (aCons (eVar 2) aNil)))) (wSeq (wSet 3 (xC W_map (aCons (eVar 6) (aCons (eVar 2) (aCons (eVar 7) aNil))))) (wSeq (wSet 4 (xC W_table (aCons (eVar 7) (aCons (e1 dLen (e2 dIx (eVar 3) (eC (.int 1)))) aNil)))) (wE 1 g_rest)))) := rfl
theorem more_iD (n i : Nat) : dAdd (.dat (iD n)) (.dat (iD i)) = some (.dat (iD (n + i))) := rfl
theorem w_ok (r : Addr) : w_law (envLaw r) fun o => o = .rt (dB true) := by
  rw [w_law_eq]
  refine wSeq_of ?_
  refine ⟨.dat (iD 1), rfl, [.dat (.int 2)], rfl, 2, rfl, by decide, by decide, fun d h0 h1 => ?_⟩
  obtain ⟨i, rfl⟩ := Int.eq_ofNat_of_zero_le h0
  refine ⟨.dat (iD (1 + i)), more_iD 1 i, ?_⟩
  have hi : i < 2 := by omega
  refine wSeq_of ?_
  refine ⟨.dat (iD 3), rfl, [.dat (.int 2)], rfl, 2, rfl, by decide, by decide, fun d h0 h1 => ?_⟩
  obtain ⟨j, rfl⟩ := Int.eq_ofNat_of_zero_le h0
  refine ⟨.dat (iD (3 + j)), more_iD 3 j, ?_⟩
  have hj : j < 2 := by omega
  refine ⟨.dat (iD 2), rfl, [.dat (iD (1 + i))], rfl, ((1 + i : Nat) : Int), rfl, by omega, by omega, fun d h0 h1 => ?_⟩
  obtain ⟨m, rfl⟩ := Int.eq_ofNat_of_zero_le h0
  refine ⟨.dat (iD (2 + m)), more_iD 2 m, ?_⟩
  have hm : m < 1 + i := by omega
  have la : 3 + j = 3 ∨ 3 + j = 4 := by omega
  have lh : (1 + i = 1 ∧ 2 + m = 2) ∨ (1 + i = 2 ∧ (2 + m = 2 ∨ 2 + m = 3)) := by omega
  obtain ⟨D, D2⟩ := doms la lh
  generalize 3 + j = a at *
  generalize 1 + i = l at *
  generalize 2 + m = k at *
  refine wSeq_of ⟨[.dat (iD a), .dat (iD l), .dat (iD k)], rfl, maps_drawn la lh fun cs hcs => ?_⟩
  have hl := (D.cok cs hcs).len
  have hn := nSmall D
  refine wSeq_of ⟨[.dat (iD k), .dat (iD (a * l + 1))], ?_, table_ok (by omega) (by omega) fun vs V => ?_⟩
  · refine aCons_of rfl (aCons_of (e1_of (e2_of rfl rfl (dIx_ch a cs)) ?_) rfl)
    rw [dLen_tu, hl]; rfl
  · exact wE_rt (rest_ok (r := r) D D2 V hcs) rfl
end K08
end
set_option maxRecDepth 100000 in
theorem PySem.Challenge.cw_starlands_k08_whole_worths_holds : PySem.Challenge.rw_starlands_k08_whole_worths.Holds := by
  exact K08.holds_of K08.w_ok
