import PyProof.Rows.All
import Wide.All
import OpenK.AllK
import Wide.FinOn
import HandS.ForMost
import HandS.ForExc
import HandS.Conv
import HandS.TupAny
import HandS.TupMul
import HandS.Style
import HandS.IsInst
import HandS.Deep
import KE.KTupSum
import KE.SortData
import HandS.Sort
import KE.GoesNew
import HandS.Zip
import HandS.SetFor
import HandS.Defaults
import HandS.WordsExc
import HandS.HeadHook2
import HandS.Strs
import KE.KIndexOf
import HandS.ExcIs
import HandS.HotCalls
import KE.DataFind
import HandS.Codes
import HandS.NamedTupGet
import HandS.OwnEq
import HandS.SlotsOwn
import HandS.HeadHook4
import HandS.Text
import HandS.RaiseMore
import HandS.HeadEnd
import HandS.Head0
import HandS.Head1
import HandS.Head2
import HandS.ReplaceLit
import HandS.Dict
import PySem.Challenge.RW_othersloss_k14_whole_repeated_calls
set_option Elab.async false
set_option linter.all false
set_option maxRecDepth 100000
set_option maxHeartbeats 4000000
/-! DLCore: values as data, the heap hidden; what an expression, a test, a statement evaluates to. -/
namespace DL
open PySem L2

abbrev D := PyData
/-- a thing that is kept by its place: the k-th cell of the store -/
def tok (k : Nat) : D := .dict [(.none, .int (k : Int))]
/-- the script: a list that nobody may write -/
def scr (ds : List D) : D := .dict [(.bool true, .list ds)]

abbrev Frag := PySem.W.Frag

/-! ### a value stands for data -/
mutual
inductive Rp (K : Frag) (as : List Addr) (F : Hp) : V → D → Prop
  | non : Rp K as F .non .none
  | bl (b : Bool) : Rp K as F (.bl b) (.bool b)
  | int (i : Int) : Rp K as F (.int i) (.int i)
  | str (x : Str) : Rp K as F (.str x) (.str x)
  | lst {a : Addr} {xs : List V} {ds : List D} : F a = some (.lst xs) → RpA K as F xs ds → Rp K as F (.ref a) (.list ds)
  | tup {a : Addr} {xs : List V} {ds : List D} : SqT K F a xs → RpA K as F xs ds → Rp K as F (.ref a) (.tuple ds)
  | scr {a : Addr} {xs : List V} {ds : List D} : SqL K F a xs → RpA K as F xs ds → Rp K as F (.ref a) (.dict [(.bool true, .list ds)])
  | tok {a : Addr} {k : Nat} : as[k]? = some a → Rp K as F (.ref a) (.dict [(.none, .int (k : Int))])
inductive RpA (K : Frag) (as : List Addr) (F : Hp) : List V → List D → Prop
  | nil : RpA K as F [] []
  | cons {v : V} {vs : List V} {d : D} {ds : List D} : Rp K as F v d → RpA K as F vs ds → RpA K as F (v :: vs) (d :: ds)
end

/-- all that the first tells, the second tells -/
def Ex (H H' : Hp) : Prop := ∀ a o, H a = some o → H' a = some o
theorem Ex.refl (H : Hp) : Ex H H := fun _ _ h => h
theorem Ex.trans {H H1 H2 : Hp} (a : Ex H H1) (b : Ex H1 H2) : Ex H H2 := fun x o h => b x o (a x o h)
theorem Ex.new {H : Hp} {p : Addr} {o : HO} (h : H p = none) : Ex H (upd H p o) := fun a u e => by
  rw [upd_ne (ne_of_none e h)]
  exact e
theorem Ex.none {H H' : Hp} (e : Ex H H') {a : Addr} (h : H' a = none) : H a = none := by
  cases q : H a with
  | none => rfl
  | some o => rw [e a o q] at h; cases h
theorem Ex.sqT {K : Frag} {H H' : Hp} {a : Addr} {xs : List V} (e : Ex H H') (h : SqT K H a xs) : SqT K H' a xs := by
  rcases h with (h | ⟨o, h⟩) | h
  · exact .inl (.inl (e _ _ h))
  · exact .inl (.inr ⟨o, e _ _ h⟩)
  · exact .inr h

theorem Ex.sqL {K : Frag} {H H' : Hp} {a : Addr} {xs : List V} (e : Ex H H') (h : SqL K H a xs) : SqL K H' a xs := by
  rcases h with (h | ⟨o, h⟩) | h
  · exact .inl (.inl (e _ _ h))
  · exact .inl (.inr ⟨o, e _ _ h⟩)
  · exact .inr h
/-- the lists of cells grow at their end -/
def Pre (as as' : List Addr) : Prop := ∀ (k : Nat) a, as[k]? = some a → as'[k]? = some a
theorem Pre.refl (as : List Addr) : Pre as as := fun _ _ h => h
theorem Pre.trans {a b c : List Addr} (h : Pre a b) (h' : Pre b c) : Pre a c := fun k x e => h' k x (h k x e)

mutual
theorem Rp.mono {K : Frag} {as as' : List Addr} {F F' : Hp} (p : Pre as as') (e : Ex F F') : ∀ {d : D} {v : V}, Rp K as F v d → Rp K as' F' v d
  | _, _, .non => .non
  | _, _, .bl b => .bl b
  | _, _, .int i => .int i
  | _, _, .str x => .str x
  | _, _, .lst h r => .lst (e _ _ h) (RpA.mono p e r)
  | _, _, .tup h r => .tup (e.sqT h) (RpA.mono p e r)
  | _, _, .scr h r => .scr (e.sqL h) (RpA.mono p e r)
  | _, _, .tok h => .tok (p _ _ h)
theorem RpA.mono {K : Frag} {as as' : List Addr} {F F' : Hp} (p : Pre as as') (e : Ex F F') : ∀ {ds : List D} {vs : List V}, RpA K as F vs ds → RpA K as' F' vs ds
  | _, _, .nil => .nil
  | _, _, .cons h r => .cons (Rp.mono p e h) (RpA.mono p e r)
end
theorem RpA.length {K : Frag} {as : List Addr} {F : Hp} : ∀ {ds : List D} {vs : List V}, RpA K as F vs ds → vs.length = ds.length
  | _, _, .nil => rfl
  | _, _, .cons _ r => congrArg (· + 1) (RpA.length r)
theorem RpA.get {K : Frag} {as : List Addr} {F : Hp} : ∀ {ds : List D} {vs : List V} {i : Nat} {d : D}, RpA K as F vs ds → ds[i]? = some d → ∃ v, vs[i]? = some v ∧ Rp K as F v d
  | _, _, _, _, .nil, e => by simp at e
  | _, _, 0, _, .cons r _, e => by simp at e; subst e; exact ⟨_, rfl, r⟩
  | _, _, i + 1, d, .cons _ t, e => by
    obtain ⟨v, h1, h2⟩ := RpA.get (i := i) (d := d) t (by simpa using e)
    exact ⟨v, by simpa using h1, h2⟩
theorem RpA.getV {K : Frag} {as : List Addr} {F : Hp} : ∀ {ds : List D} {vs : List V} {i : Nat} {v : V}, RpA K as F vs ds → vs[i]? = some v → ∃ d, ds[i]? = some d ∧ Rp K as F v d
  | _, _, _, _, .nil, e => by simp at e
  | _, _, 0, _, .cons r _, e => by simp at e; subst e; exact ⟨_, rfl, r⟩
  | _, _, i + 1, d, .cons _ t, e => by
    obtain ⟨v, h1, h2⟩ := RpA.getV (i := i) (v := d) t (by simpa using e)
    exact ⟨v, by simpa using h1, h2⟩
theorem RpA.append {K : Frag} {as : List Addr} {F : Hp} : ∀ {ds es : List D} {vs ws : List V}, RpA K as F vs ds → RpA K as F ws es → RpA K as F (vs ++ ws) (ds ++ es)
  | _, _, _, _, .nil, s => s
  | _, _, _, _, .cons r t, s => .cons r (RpA.append t s)
theorem RpA.take {K : Frag} {as : List Addr} {F : Hp} : ∀ {ds : List D} {vs : List V} (n : Nat), RpA K as F vs ds → RpA K as F (vs.take n) (ds.take n)
  | _, _, 0, _ => .nil
  | _, _, _ + 1, .nil => .nil
  | _, _, n + 1, .cons r t => .cons r (RpA.take n t)
theorem RpA.drop {K : Frag} {as : List Addr} {F : Hp} : ∀ {ds : List D} {vs : List V} (n : Nat), RpA K as F vs ds → RpA K as F (vs.drop n) (ds.drop n)
  | _, _, 0, r => r
  | _, _, _ + 1, .nil => .nil
  | _, _, n + 1, .cons _ t => RpA.drop n t
theorem RpA.reverse {K : Frag} {as : List Addr} {F : Hp} : ∀ {ds : List D} {vs : List V}, RpA K as F vs ds → RpA K as F vs.reverse ds.reverse
  | _, _, .nil => .nil
  | _, _, .cons r t => by
    rw [List.reverse_cons, List.reverse_cons]
    exact (RpA.reverse t).append (.cons r .nil)
theorem RpA.set {K : Frag} {as : List Addr} {F : Hp} {v : V} {d : D} (r : Rp K as F v d) : ∀ {ds : List D} {vs : List V} (i : Nat), RpA K as F vs ds → RpA K as F (vs.set i v) (ds.set i d)
  | _, _, _, .nil => .nil
  | _, _, 0, .cons _ t => .cons r t
  | _, _, i + 1, .cons q t => .cons q (RpA.set r i t)
theorem RpA.erase {K : Frag} {as : List Addr} {F : Hp} : ∀ {ds : List D} {vs : List V} (i : Nat), RpA K as F vs ds → RpA K as F (vs.eraseIdx i) (ds.eraseIdx i)
  | _, _, _, .nil => .nil
  | _, _, 0, .cons _ t => t
  | _, _, i + 1, .cons q t => .cons q (RpA.erase i t)
theorem RpA.one {K : Frag} {as : List Addr} {F : Hp} {v : V} {d : D} (r : Rp K as F v d) : RpA K as F [v] [d] := .cons r .nil
theorem RpA.of_get {K : Frag} {as : List Addr} {F : Hp} : ∀ {ds : List D} {vs : List V}, vs.length = ds.length → (∀ (i : Nat) v d, vs[i]? = some v → ds[i]? = some d → Rp K as F v d) → RpA K as F vs ds
  | [], [], _, _ => .nil
  | d :: ds, v :: vs, h, k => .cons (k 0 v d rfl rfl) (RpA.of_get (by simpa using h) fun i v d e e' => k (i + 1) v d (by simpa using e) (by simpa using e'))
  | [], _ :: _, h, _ => by simp at h
  | _ :: _, [], h, _ => by simp at h

/-! ### the store -/
inductive Cell where
  | lst (xs : List D)
  | ins (fs : List (Str × D))
  /-- a dict of numbers; the object, while a walk holds it -/
  | dct (held : Option Obj) (kvs : List (Int × Int))
abbrev Mu := List Cell
/-- the class of the things that the store keeps; the classes of the exceptions by number -/
structure G where
  C : Addr
  ex : Nat → Value
/-- the cells' places, what stands for good, what is tracked -/
structure Wd where
  as : List Addr
  F : Hp
  H : Hp
abbrev FsAt (K : Frag) (as : List Addr) (F : Hp) : List (Str × V) → List (Str × D) → Prop := Paired fun p q => p.1 = q.1 ∧ Rp K as F p.2 q.2
abbrev encK (kvs : List (Int × Int)) : List (Key × V) := kvs.map fun p => (.inl p.1, V.int p.2)
def CellAt (K : Frag) (g : G) (w : Wd) (a : Addr) : Cell → Prop
  | .dct held kvs => w.H a = some (match held with | some o => HO.frz o (.dK (encK kvs)) | none => .dK (encK kvs))
  | .lst xs => ∃ vs, w.H a = some (.lst vs) ∧ RpA K w.as w.F vs xs
  | .ins fs => ∃ dx vfs, w.H a = some (.ins g.C dx vfs) ∧ FsAt K w.as w.F vfs fs
structure Sim (K : Frag) (g : G) (w : Wd) (μ : Mu) : Prop where
  sub : Ex w.F w.H
  nd : ∀ (j k : Nat) a, w.as[j]? = some a → w.as[k]? = some a → j = k
  len : w.as.length = μ.length
  cell : ∀ (k : Nat) c, μ[k]? = some c → ∃ a, w.as[k]? = some a ∧ w.F a = none ∧ CellAt K g w a c
/-- what was said before stands -/
structure Le (w w' : Wd) : Prop where
  pre : Pre w.as w'.as
  ex : Ex w.F w'.F
  fresh : ∀ a o, w'.F a = some o → w.F a = some o ∨ w.H a = none
  keep : ∀ a o, w.H a = some o → a ∉ w.as → w'.H a = some o
  news : ∀ a, a ∈ w'.as → a ∈ w.as ∨ w.H a = none
  mono : ∀ a, w'.H a = none → w.H a = none
/-- .. the data alone -/
structure Wk (w w' : Wd) : Prop where
  pre : Pre w.as w'.as
  ex : Ex w.F w'.F
theorem Wk.refl (w : Wd) : Wk w w := ⟨.refl _, .refl _⟩
theorem Wk.trans {a b c : Wd} (h : Wk a b) (h' : Wk b c) : Wk a c := ⟨h.pre.trans h'.pre, h.ex.trans h'.ex⟩
theorem Le.wk {w w' : Wd} (l : Le w w') : Wk w w' := ⟨l.pre, l.ex⟩
theorem Le.refl (w : Wd) : Le w w := ⟨.refl _, .refl _, fun _ _ h => .inl h, fun _ _ h _ => h, fun _ h => .inl h, fun _ h => h⟩
theorem Le.trans {a b c : Wd} (h : Le a b) (h' : Le b c) : Le a c where
  pre := h.pre.trans h'.pre
  ex := h.ex.trans h'.ex
  fresh := fun x o e => by
    rcases h'.fresh x o e with e | e
    · exact h.fresh x o e
    · exact .inr (h.mono x e)
  keep := fun x o e n => by
    refine h'.keep x o (h.keep x o e n) fun z => ?_
    rcases h.news x z with z | z
    · exact n z
    · rw [e] at z; cases z
  news := fun x e => by
    rcases h'.news x e with e | e
    · exact h.news x e
    · exact .inr (h.mono x e)
  mono := fun x e => h.mono x (h'.mono x e)
theorem Rp.wk {K : Frag} {w w' : Wd} {v : V} {d : D} (l : Wk w w') (r : Rp K w.as w.F v d) : Rp K w'.as w'.F v d := r.mono l.pre l.ex
theorem RpA.wk {K : Frag} {w w' : Wd} {v : List V} {d : List D} (l : Wk w w') (r : RpA K w.as w.F v d) : RpA K w'.as w'.F v d := r.mono l.pre l.ex
theorem Rp.le {K : Frag} {w w' : Wd} {v : V} {d : D} (l : Le w w') (r : Rp K w.as w.F v d) : Rp K w'.as w'.F v d := r.mono l.pre l.ex
theorem RpA.le {K : Frag} {w w' : Wd} {v : List V} {d : List D} (l : Le w w') (r : RpA K w.as w.F v d) : RpA K w'.as w'.F v d := r.mono l.pre l.ex
theorem FsAt.mono {K : Frag} {as as' : List Addr} {F F' : Hp} (p : Pre as as') (e : Ex F F') {vs : List (Str × V)} {ds : List (Str × D)} (r : FsAt K as F vs ds) : FsAt K as' F' vs ds := Paired.mapP r fun _ _ z => ⟨z.1, z.2.mono p e⟩

/-! ### a new thing that stands for good -/
def Wd.put (w : Wd) (p : Addr) (o : HO) : Wd := ⟨w.as, upd w.F p o, upd w.H p o⟩
theorem Sim.cellMono {K : Frag} {g : G} {w w' : Wd} {a : Addr} {c : Cell} (p : Pre w.as w'.as) (e : Ex w.F w'.F) (h : w'.H a = w.H a) (x : CellAt K g w a c) : CellAt K g w' a c := by
  cases c with
  | lst xs => obtain ⟨vs, h1, r⟩ := x; exact ⟨vs, h.trans h1, r.mono p e⟩
  | ins fs => obtain ⟨dx, vfs, h1, r⟩ := x; exact ⟨dx, vfs, h.trans h1, FsAt.mono p e r⟩
  | dct hd kvs => exact h.trans x
theorem CellAt.some {K : Frag} {g : G} {w : Wd} {a : Addr} {c : Cell} (x : CellAt K g w a c) : ∃ o, w.H a = some o := by
  cases c with
  | lst xs => obtain ⟨vs, h1, r⟩ := x; exact ⟨_, h1⟩
  | ins fs => obtain ⟨dx, vfs, h1, r⟩ := x; exact ⟨_, h1⟩
  | dct hd kvs => exact ⟨_, x⟩
theorem Sim.notas {K : Frag} {g : G} {w : Wd} {μ : Mu} (S : Sim K g w μ) {a : Addr} (h : w.H a = none) : a ∉ w.as := fun hm => by
  obtain ⟨k, e⟩ := List.mem_iff_getElem?.mp hm
  have hk : k < μ.length := by rw [← S.len]; exact (List.getElem?_eq_some_iff.mp e).1
  obtain ⟨a', e', _, x⟩ := S.cell k _ (List.getElem?_eq_getElem hk)
  rw [e] at e'; cases e'
  obtain ⟨o, ho⟩ := x.some
  rw [h] at ho; cases ho
theorem Sim.notF {K : Frag} {g : G} {w : Wd} {μ : Mu} (S : Sim K g w μ) {a : Addr} (h : a ∈ w.as) : w.F a = none := by
  obtain ⟨k, e⟩ := List.mem_iff_getElem?.mp h
  have hk : k < μ.length := by rw [← S.len]; exact (List.getElem?_eq_some_iff.mp e).1
  obtain ⟨a', e', f, x⟩ := S.cell k _ (List.getElem?_eq_getElem hk)
  rw [e] at e'; cases e'
  exact f
theorem Sim.put {K : Frag} {g : G} {w : Wd} {μ : Mu} {p : Addr} {o : HO} (S : Sim K g w μ) (h : w.H p = none) : Sim K g (w.put p o) μ := by
  have hF : w.F p = none := S.sub.none h
  refine ⟨fun a u e => ?_, S.nd, S.len, fun k c e => ?_⟩
  · show (upd w.H p o) a = some u
    have e : (upd w.F p o) a = some u := e
    by_cases hp : a = p
    · subst hp; rw [upd_same] at e ⊢; exact e
    · rw [upd_ne hp] at e ⊢; exact S.sub a u e
  · obtain ⟨a, e1, f, x⟩ := S.cell k c e
    obtain ⟨u, hu⟩ := x.some
    have hp : a ≠ p := ne_of_none hu h
    refine ⟨a, e1, ?_, Sim.cellMono (w := w) (.refl _) (Ex.new hF) (upd_ne hp) x⟩
    show (upd w.F p o) a = none
    rw [upd_ne hp]; exact f
theorem Sim.putLe {K : Frag} {g : G} {w : Wd} {μ : Mu} {p : Addr} {o : HO} (S : Sim K g w μ) (h : w.H p = none) : Le w (w.put p o) := by
  have hF : w.F p = none := S.sub.none h
  refine ⟨.refl _, Ex.new hF, fun a u e => ?_, fun a u e _ => ?_, fun a e => .inl e, fun a e => ?_⟩
  · have e : (upd w.F p o) a = some u := e
    by_cases hp : a = p
    · exact .inr (by rw [hp]; exact h)
    · rw [upd_ne hp] at e; exact .inl e
  · show (upd w.H p o) a = some u
    rw [upd_ne (ne_of_none e h)]; exact e
  · have e : (upd w.H p o) a = none := e
    by_cases hp : a = p
    · rw [hp]; exact h
    · rw [upd_ne hp] at e; exact e
theorem Wd.put_F {w : Wd} {p : Addr} {o : HO} : (w.put p o).F p = some o := upd_same
theorem Wd.put_H {w : Wd} {p : Addr} {o : HO} : (w.put p o).H p = some o := upd_same
/-- .. tracked only -/
def Wd.lay (w : Wd) (p : Addr) (o : HO) : Wd := ⟨w.as, w.F, upd w.H p o⟩
theorem Sim.lay {K : Frag} {g : G} {w : Wd} {μ : Mu} {p : Addr} {o : HO} (S : Sim K g w μ) (h : w.F p = none) (n : p ∉ w.as) : Sim K g (w.lay p o) μ := by
  refine ⟨fun a u e => ?_, S.nd, S.len, fun k c e => ?_⟩
  · show (upd w.H p o) a = some u
    rw [upd_ne (ne_of_none e h)]
    exact S.sub a u e
  · obtain ⟨a, e1, f, x⟩ := S.cell k c e
    have hp : a ≠ p := fun z => n (by rw [← z]; exact List.mem_of_getElem? e1)
    exact ⟨a, e1, f, Sim.cellMono (w := w) (.refl _) (.refl _) (upd_ne hp) x⟩
theorem Sim.layLe {K : Frag} {g : G} {w : Wd} {μ : Mu} {p : Addr} {o : HO} (S : Sim K g w μ) (h : w.H p = none) : Le w (w.lay p o) := by
  refine ⟨.refl _, .refl _, fun a u e => .inl e, fun a u e _ => ?_, fun a e => .inl e, fun a e => ?_⟩
  · show (upd w.H p o) a = some u
    rw [upd_ne (ne_of_none e h)]; exact e
  · have e : (upd w.H p o) a = none := e
    by_cases hp : a = p
    · rw [hp]; exact h
    · rw [upd_ne hp] at e; exact e

/-! ### slots -/
inductive Sl where
  /-- data -/
  | v (d : D)
  /-- a list of the def's own, not shared with anyone -/
  | own (xs : List D)
abbrev Slots := List (Option Sl)
/-- what a value in hand stands for -/
def RpS (K : Frag) (H0 : Hp) (w : Wd) (x : V) : Sl → Prop
  | .v d => Rp K w.as w.F x d
  | .own xs => ∃ l vs, x = .ref l ∧ H0 l = none ∧ w.F l = none ∧ l ∉ w.as ∧ w.H l = some (.lst vs) ∧ RpA K w.as w.F vs xs
structure SimS (K : Frag) (H0 : Hp) (w : Wd) (sd : Slots) (σ : L2.St) : Prop where
  len : σ.length = sd.length
  at_ : ∀ (i : Nat) s, sd[i]? = some (some s) → ∃ x, σ[i]? = some (some x) ∧ RpS K H0 w x s
  sep : ∀ (i j : Nat) xs ys a, sd[i]? = some (some (.own xs)) → sd[j]? = some (some (.own ys)) → σ[i]? = some (some (.ref a)) → σ[j]? = some (some (.ref a)) → i = j
theorem RpS.le {K : Frag} {H0 : Hp} {w w' : Wd} {x : V} {s : Sl} (l : Le w w') (r : RpS K H0 w x s) : RpS K H0 w' x s := by
  cases s with
  | v d => exact Rp.le l r
  | own xs =>
    obtain ⟨a, vs, e, h0, hF, n, h, r⟩ := r
    refine ⟨a, vs, e, h0, ?_, fun z => ?_, l.keep a _ h n, r.le l⟩
    · cases q : w'.F a with
      | none => rfl
      | some o =>
        rcases l.fresh a o q with z | z
        · rw [hF] at z; cases z
        · rw [h] at z; cases z
    · rcases l.news a z with z | z
      · exact n z
      · rw [h] at z; cases z
theorem SimS.le {K : Frag} {H0 : Hp} {w w' : Wd} {sd : Slots} {σ : L2.St} (l : Le w w') (S : SimS K H0 w sd σ) : SimS K H0 w' sd σ :=
  ⟨S.len, fun i s e => let ⟨x, h, r⟩ := S.at_ i s e; ⟨x, h, r.le l⟩, S.sep⟩
theorem get_set {α : Type} {l : List α} {i j : Nat} {x y : α} (h : (l.set i x)[j]? = some y) : (i = j ∧ y = x ∧ j < l.length) ∨ (i ≠ j ∧ l[j]? = some y) := by
  by_cases e : i = j
  · subst e
    by_cases hl : i < l.length
    · rw [List.getElem?_set_self hl] at h
      exact .inl ⟨rfl, (Option.some.inj h).symm, hl⟩
    · rw [List.getElem?_eq_none (by simpa using hl)] at h
      cases h
  · rw [List.getElem?_set_ne e] at h
    exact .inr ⟨e, h⟩
/-- a slot gets data -/
theorem SimS.setV {K : Frag} {H0 : Hp} {w : Wd} {sd : Slots} {σ : L2.St} {x : V} {d : D} (S : SimS K H0 w sd σ) (i : Nat) (r : Rp K w.as w.F x d) : SimS K H0 w (sd.set i (some (.v d))) (σ.set i (some x)) := by
  refine ⟨by simp [S.len], fun j s e => ?_, fun j k xs ys a e1 e2 e3 e4 => ?_⟩
  · rcases get_set e with ⟨rfl, e, hl⟩ | ⟨hne, e⟩
    · cases e
      exact ⟨x, by rw [List.getElem?_set_self (by rw [S.len]; exact hl)], r⟩
    · obtain ⟨y, h, q⟩ := S.at_ j s e
      exact ⟨y, by rw [List.getElem?_set_ne hne]; exact h, q⟩
  · rcases get_set e1 with ⟨rfl, e, _⟩ | ⟨n1, e1⟩
    · cases e
    · rcases get_set e2 with ⟨rfl, e, _⟩ | ⟨n2, e2⟩
      · cases e
      · rw [List.getElem?_set_ne n1] at e3
        rw [List.getElem?_set_ne n2] at e4
        exact S.sep j k xs ys a e1 e2 e3 e4
/-- a slot gets a list of its own -/
theorem SimS.setO {K : Frag} {H0 : Hp} {w : Wd} {sd : Slots} {σ : L2.St} {l : Addr} {xs : List D} (S : SimS K H0 w sd σ) (i : Nat) (r : RpS K H0 w (.ref l) (.own xs)) (hn : ∀ (j : Nat) ys, sd[j]? = some (some (.own ys)) → σ[j]? = some (some (.ref l)) → j = i) :
    SimS K H0 w (sd.set i (some (.own xs))) (σ.set i (some (.ref l))) := by
  refine ⟨by simp [S.len], fun j s e => ?_, fun j k ys zs a e1 e2 e3 e4 => ?_⟩
  · rcases get_set e with ⟨rfl, e, hl⟩ | ⟨hne, e⟩
    · cases e
      exact ⟨.ref l, by rw [List.getElem?_set_self (by rw [S.len]; exact hl)], r⟩
    · obtain ⟨y, h, q⟩ := S.at_ j s e
      exact ⟨y, by rw [List.getElem?_set_ne hne]; exact h, q⟩
  · rcases get_set e1 with ⟨rfl, e, hl⟩ | ⟨n1, e1⟩
    · rw [List.getElem?_set_self (by rw [S.len]; exact hl)] at e3
      cases e3
      rcases get_set e2 with ⟨h, _, _⟩ | ⟨n2, e2⟩
      · exact h
      · rw [List.getElem?_set_ne n2] at e4
        exact (hn k zs e2 e4).symm
    · rw [List.getElem?_set_ne n1] at e3
      rcases get_set e2 with ⟨rfl, e, hl⟩ | ⟨n2, e2⟩
      · rw [List.getElem?_set_self (by rw [S.len]; exact hl)] at e4
        cases e4
        exact hn j ys e1 e3
      · rw [List.getElem?_set_ne n2] at e4
        exact S.sep j k ys zs a e1 e2 e3 e4
/-- slots forgotten -/
theorem SimS.forget {K : Frag} {H0 : Hp} {w : Wd} {sd sd' : Slots} {σ : L2.St} (S : SimS K H0 w sd σ) (hl : sd'.length = sd.length) (h : ∀ (i : Nat) s, sd'[i]? = some (some s) → sd[i]? = some (some s)) : SimS K H0 w sd' σ :=
  ⟨by rw [hl]; exact S.len, fun i s e => S.at_ i s (h i s e), fun i j xs ys a e1 e2 => S.sep i j xs ys a (h _ _ e1) (h _ _ e2)⟩

/-! ### results -/
inductive Res (α : Type) where
  | ok (a : α) (μ : Mu)
  | exc (c : Nat) (μ : Mu)
  | bad
def Res.bind {α β : Type} : Res α → (α → Mu → Res β) → Res β
  | .ok a μ, k => k a μ
  | .exc c μ, _ => .exc c μ
  | .bad, _ => .bad
@[simp] theorem Res.bind_ok {α β : Type} (a : α) (μ : Mu) (k : α → Mu → Res β) : (Res.ok a μ).bind k = k a μ := rfl
@[simp] theorem Res.bind_exc {α β : Type} (c : Nat) (μ : Mu) (k : α → Mu → Res β) : (Res.exc c μ : Res α).bind k = .exc c μ := rfl
@[simp] theorem Res.bind_bad {α β : Type} (k : α → Mu → Res β) : (Res.bad : Res α).bind k = .bad := rfl
/-- a part that may be undefined -/
def lift {α : Type} (o : Option α) (μ : Mu) : Res α := match o with
  | some a => .ok a μ
  | none => .bad
@[simp] theorem lift_some {α : Type} (a : α) (μ : Mu) : lift (some a) μ = .ok a μ := rfl
@[simp] theorem lift_none {α : Type} (μ : Mu) : lift (none : Option α) μ = .bad := rfl

abbrev DE := Slots → Mu → Res D
abbrev DA := Slots → Mu → Res (List D)
abbrev DT := Slots → Mu → Res Bool
inductive Flw where
  | next (sd : Slots)
  | ret (d : D)
abbrev DS := Slots → Mu → Res Flw

/-! ### what readings evaluate to -/
/-- T leads to what r says, from w on -/
def Out {α β : Type} (K : Frag) (g : G) (W : WX) (σ : L2.St) (w : Wd) (Rel : Wd → β → α → Prop) (r : Res α) (T : (β → Hp → Prop) → Prop) : Prop :=
  match r with
  | .ok a μ' => ∀ Q : β → Hp → Prop, (∀ w' x, Le w w' → Sim K g w' μ' → Rel w' x a → Q x w'.H) → T Q
  | .exc c μ' => ∀ Q : β → Hp → Prop, (∀ w', Le w w' → Sim K g w' μ' → W (g.ex c) none σ w'.H) → T Q
  | .bad => True
section
variable {α β α' β' : Type} {K : Frag} {g : G} {W : WX} {σ : L2.St} {w w1 : Wd} {Rel : Wd → β → α → Prop} {Rel' : Wd → β' → α' → Prop} {r : Res α}
theorem Out.from {T : (β → Hp → Prop) → Prop} (l : Le w w1) (h : Out K g W σ w1 Rel r T) : Out K g W σ w Rel r T := by
  cases r with
  | ok a μ' => exact fun Q q => h Q fun w' x l' => q w' x (l.trans l')
  | exc c μ' => exact fun Q q => h Q fun w' l' => q w' (l.trans l')
  | bad => trivial
theorem Out.bind {k : α → Mu → Res α'} {T : (β → Hp → Prop) → Prop} {T1 : β → Hp → (β' → Hp → Prop) → Prop} (h : Out K g W σ w Rel r T)
    (hk : ∀ a μ1 w1 x, Le w w1 → Sim K g w1 μ1 → Rel w1 x a → Out K g W σ w1 Rel' (k a μ1) fun Q => T1 x w1.H Q) : Out K g W σ w Rel' (r.bind k) fun Q => T fun x H1 => T1 x H1 Q := by
  cases r with
  | ok a μ1 =>
    show Out K g W σ w Rel' (k a μ1) _
    cases e : k a μ1 with
    | ok b μ2 =>
      refine fun Q q => h _ fun w1 x l1 S1 r1 => ?_
      have z := hk a μ1 w1 x l1 S1 r1
      rw [e] at z
      exact z Q fun w2 y l2 => q w2 y (l1.trans l2)
    | exc c μ2 =>
      refine fun Q q => h _ fun w1 x l1 S1 r1 => ?_
      have z := hk a μ1 w1 x l1 S1 r1
      rw [e] at z
      exact z Q fun w2 l2 => q w2 (l1.trans l2)
    | bad => trivial
  | exc c μ' => exact fun Q q => h _ q
  | bad => trivial
theorem Out.imp {Rel2 : Wd → β → α → Prop} {T : (β → Hp → Prop) → Prop} (h : Out K g W σ w Rel r T) (k : ∀ w' x a, Le w w' → Rel w' x a → Rel2 w' x a) : Out K g W σ w Rel2 r T := by
  cases r with
  | ok a μ' => exact fun Q q => h Q fun w' x l S z => q w' x l S (k w' x a l z)
  | exc c μ' => exact h
  | bad => trivial
theorem Out.ok {a : α} {μ : Mu} {x : β} {T : (β → Hp → Prop) → Prop} (S : Sim K g w μ) (rx : Rel w x a) (hT : ∀ Q : β → Hp → Prop, Q x w.H → T Q) : Out K g W σ w Rel (.ok a μ) T := fun Q q => hT Q (q w x (.refl w) S rx)
/-- a partial operation -/
theorem Out.lift {o : Option α} {μ : Mu} {T : (β → Hp → Prop) → Prop} (h : ∀ a, o = some a → Out K g W σ w Rel (.ok a μ) T) : Out K g W σ w Rel (DL.lift o μ) T := by
  cases o with
  | none => trivial
  | some a => exact h a rfl
end
abbrev RelD (K : Frag) : Wd → V → D → Prop := fun w x d => Rp K w.as w.F x d
abbrev RelA (K : Frag) : Wd → List V → List D → Prop := fun w x d => RpA K w.as w.F x d
abbrev RelB : Wd → Bool → Bool → Prop := fun _ x d => x = d
/-- a new list, not yet shared, made since w0 -/
abbrev RelL (K : Frag) (w0 : Wd) : Wd → V → List D → Prop := fun w x ds => ∃ p vs, x = .ref p ∧ w0.H p = none ∧ w.F p = none ∧ p ∉ w.as ∧ w.H p = some (.lst vs) ∧ RpA K w.as w.F vs ds

def EvD (K : Frag) (g : G) (W : WX) (te : TE) (f : DE) : Prop := ∀ (H0 : Hp) sd μ w σ, SimS K H0 w sd σ → Sim K g w μ → Out K g W σ w (RelD K) (f sd μ) fun Q => te σ w.H Q
def EvA (K : Frag) (g : G) (W : WX) (ta : TA) (f : DA) : Prop := ∀ (H0 : Hp) sd μ w σ, SimS K H0 w sd σ → Sim K g w μ → Out K g W σ w (RelA K) (f sd μ) fun Q => ta σ w.H Q
def EvT (K : Frag) (g : G) (W : WX) (tt : TT) (f : DT) : Prop := ∀ (H0 : Hp) sd μ w σ, SimS K H0 w sd σ → Sim K g w μ → Out K g W σ w RelB (f sd μ) fun Q => tt σ w.H Q
/-- a new list, not yet shared -/
def EvL (K : Frag) (g : G) (W : WX) (te : TE) (f : DA) : Prop := ∀ (H0 : Hp) sd μ w σ, SimS K H0 w sd σ → Sim K g w μ → Out K g W σ w (RelL K w) (f sd μ) fun Q => te σ w.H Q
/-- what is wanted of a statement's end -/
def Wants (K : Frag) (g : G) (W : WX) (w0 w : Wd) (E : Ends) : Res Flw → Prop
  | .ok (.next sd') μ' => ∀ w' σ', Le w0 w' → Wk w w' → SimS K w0.H w' sd' σ' → Sim K g w' μ' → E.nx σ' w'.H
  | .ok (.ret d) μ' => ∀ w' v, Le w0 w' → Wk w w' → Sim K g w' μ' → Rp K w'.as w'.F v d → E.rt v w'.H
  | .exc c μ' => ∀ w' σ', Le w0 w' → Wk w w' → Sim K g w' μ' → W (g.ex c) none σ' w'.H
  | .bad => False
def EvS (K : Frag) (g : G) (W : WX) (ts : TS) (f : DS) : Prop := ∀ w0 sd μ w σ, Le w0 w → SimS K w0.H w sd σ → Sim K g w μ → ∀ E : Ends, Wants K g W w0 w E (f sd μ) → ts E σ w.H
theorem Wants.wk {K : Frag} {g : G} {W : WX} {w0 w w1 : Wd} {E : Ends} {r : Res Flw} (k : Wk w w1) (h : Wants K g W w0 w E r) : Wants K g W w0 w1 E r := by
  match r, h with
  | .ok (.next sd') μ', h => exact fun w' σ' l k' => h w' σ' l (k.trans k')
  | .ok (.ret d) μ', h => exact fun w' v l k' => h w' v l (k.trans k')
  | .exc c μ', h => exact fun w' σ' l k' => h w' σ' l (k.trans k')
/-- the same wish where only what follows differs -/
theorem Wants.nx {K : Frag} {g : G} {W : WX} {w0 w : Wd} {E E' : Ends} {r r' : Res Flw} (h : Wants K g W w0 w E r)
    (hn : ∀ sd' μ', r' = .ok (.next sd') μ' → Wants K g W w0 w E' r') (hr : ∀ d μ', r' = .ok (.ret d) μ' → r = r') (hx : ∀ c μ', r' = .exc c μ' → r = r') (hb : r' = .bad → r = .bad) (e : E'.rt = E.rt) : Wants K g W w0 w E' r' := by
  match r', hn, hr, hx, hb with
  | .ok (.next sd') μ', hn, _, _, _ => exact hn _ _ rfl
  | .ok (.ret d) μ', _, hr, _, _ =>
    rw [hr _ _ rfl] at h
    exact fun w' v l k S r => by rw [e]; exact h w' v l k S r
  | .exc c μ', _, _, hx, _ =>
    rw [hx _ _ rfl] at h
    exact h
  | .bad, _, _, _, hb => rw [hb rfl] at h; exact h.elim

structure PED (X : Cx) (g : G) (W : WX) (e : Expr) (te : TE) (f : DE) : Prop where
  pe : PE X e te
  ev : EvD X.K g W te f
structure PLD (X : Cx) (g : G) (W : WX) (e : Expr) (te : TE) (f : DA) : Prop where
  pe : PE X e te
  ev : EvL X.K g W te f
structure PAD (X : Cx) (g : G) (W : WX) (es : List Expr) (ta : TA) (f : DA) : Prop where
  pa : PA X es ta
  ev : EvA X.K g W ta f
structure PTD (X : Cx) (g : G) (W : WX) (e : Expr) (tt : TT) (f : DT) : Prop where
  pt : PT X e tt
  ev : EvT X.K g W tt f
structure PWD (X : Cx) (g : G) (W : WX) (e : Expr) (tt : TT) (f : DT) : Prop where
  pw : PW X e tt
  ev : EvT X.K g W tt f
structure PSD (X : Cx) (g : G) (W : WX) (st : Stmt) (ts : TS) (f : DS) : Prop where
  ps : PS X st ts
  ev : EvS X.K g W ts f
structure PBD (X : Cx) (g : G) (W : WX) (st : List Stmt) (ts : TS) (f : DS) : Prop where
  pss : PSs X st ts
  ev : EvS X.K g W ts f
end DL

set_option maxHeartbeats 4000000
/-! DLExpr: names, constants, operators, comparisons, displays, subscripts. -/
namespace DL
open PySem L2
section
variable {K : Frag} {g : G} {W : WX} {as : List Addr} {F : Hp} {w : Wd} {μ : Mu}

theorem Rp.intV {v : V} {i : Int} (h : Rp K as F v (.int i)) : v = .int i := by cases h; rfl
theorem Rp.blV {v : V} {i : Bool} (h : Rp K as F v (.bool i)) : v = .bl i := by cases h; rfl
theorem Rp.strV {v : V} {i : Str} (h : Rp K as F v (.str i)) : v = .str i := by cases h; rfl
theorem Rp.nonV {v : V} (h : Rp K as F v .none) : v = .non := by cases h; rfl
theorem Rp.lstV {v : V} {ds : List D} (h : Rp K as F v (.list ds)) : ∃ a xs, v = .ref a ∧ F a = some (.lst xs) ∧ RpA K as F xs ds := by cases h with | lst a b => exact ⟨_, _, rfl, a, b⟩
theorem Rp.tupV {v : V} {ds : List D} (h : Rp K as F v (.tuple ds)) : ∃ a xs, v = .ref a ∧ SqT K F a xs ∧ RpA K as F xs ds := by cases h with | tup a b => exact ⟨_, _, rfl, a, b⟩
theorem Rp.scrV {v : V} {ds : List D} (h : Rp K as F v (DL.scr ds)) : ∃ a xs, v = .ref a ∧ SqL K F a xs ∧ RpA K as F xs ds := by
  unfold DL.scr at h
  cases h with | scr a b => exact ⟨_, _, rfl, a, b⟩
theorem Rp.tokV {v : V} {k : Nat} (h : Rp K as F v (DL.tok k)) : ∃ a, v = .ref a ∧ as[k]? = some a := by
  unfold DL.tok at h
  generalize hd : PyData.dict [(PyData.none, PyData.int (k : Int))] = d at h
  cases h <;> first | (cases hd; done) | skip
  rename_i a k' h1
  injection hd with hd
  injection hd with hd _
  injection hd with _ hd
  injection hd with hd
  have : k = k' := by omega
  subst this
  exact ⟨a, rfl, h1⟩
theorem RpA.ints {vs : List V} : ∀ {ns : List Int}, RpA K as F vs (ns.map .int) → vs = ns.map V.int
  | [], h => by cases h; rfl
  | n :: ns, h => by
    have h' : RpA K as F vs (.int n :: ns.map .int) := h
    cases h' with
    | cons a b => rw [a.intV, RpA.ints b]; rfl
theorem RpA.bls {vs : List V} : ∀ {ns : List Bool}, RpA K as F vs (ns.map .bool) → vs = ns.map V.bl
  | [], h => by cases h; rfl
  | n :: ns, h => by
    have h' : RpA K as F vs (.bool n :: ns.map .bool) := h
    cases h' with
    | cons a b => rw [a.blV, RpA.bls b]; rfl
theorem RpA.strs {vs : List V} : ∀ {ns : List Str}, RpA K as F vs (ns.map .str) → vs = ns.map V.str
  | [], h => by cases h; rfl
  | n :: ns, h => by
    have h' : RpA K as F vs (.str n :: ns.map .str) := h
    cases h' with
    | cons a b => rw [a.strV, RpA.strs b]; rfl
theorem rpA_ints : ∀ ns : List Int, RpA K as F (ns.map V.int) (ns.map .int)
  | [] => .nil
  | n :: ns => .cons (.int n) (rpA_ints ns)
theorem rpA_strs : ∀ ns : List Str, RpA K as F (ns.map V.str) (ns.map .str)
  | [] => .nil
  | n :: ns => .cons (.str n) (rpA_strs ns)

/-! ### the readers of the layer below -/
mutual
/-- data without things kept by their place -/
def plain : D → Bool
  | .none | .bool _ | .int _ | .str _ => true
  | .list xs => plainA xs
  | .tuple xs => plainA xs
  | .dict _ => false
def plainA : List D → Bool
  | [] => true
  | x :: xs => plain x && plainA xs
end
mutual
theorem plain_of_lay : ∀ d : D, d.canLay0 = true → plain d = true
  | .none, _ => by simp [plain]
  | .bool _, _ => by simp [plain]
  | .int _, _ => by simp [plain]
  | .str _, _ => by simp [plain]
  | .list xs, h => by simp only [plain]; exact plainA_of_lay xs (by simpa [PyData.canLay0] using h)
  | .tuple xs, h => by simp only [plain]; exact plainA_of_lay xs (by simpa [PyData.canLay0] using h)
  | .dict _, h => by simp [PyData.canLay0] at h
theorem plainA_of_lay : ∀ ds : List D, PyData.canLayAll0 ds = true → plainA ds = true
  | [], _ => by simp [plainA]
  | d :: ds, h => by
    have h' : d.canLay0 = true ∧ PyData.canLayAll0 ds = true := by simpa [PyData.canLayAll0] using h
    simp [plainA, plain_of_lay d h'.1, plainA_of_lay ds h'.2]
end
theorem sqL_of {H : Hp} {a : Addr} {xs : List V} (h : H a = some (.lst xs)) : SqL K H a xs := .inl (.inl h)
mutual
theorem Rp.dp {H : Hp} (e : Ex F H) : ∀ {d : D} {v : V}, plain d = true → Rp K as F v d → Dp K H v d
  | _, _, _, .non => .non
  | _, _, _, .bl b => .bl b
  | _, _, _, .int i => .int i
  | _, _, _, .str x => .str x
  | _, _, p, .lst h r => .lst (sqL_of (e _ _ h)) (RpA.dp e (by simpa [plain] using p) r)
  | _, _, p, .tup h r => .tup (e.sqT h) (RpA.dp e (by simpa [plain] using p) r)
  | _, _, p, .scr _ _ => by simp [plain] at p
  | _, _, p, .tok _ => by simp [plain] at p
theorem RpA.dp {H : Hp} (e : Ex F H) : ∀ {ds : List D} {vs : List V}, plainA ds = true → RpA K as F vs ds → DpAll K H vs ds
  | _, _, _, .nil => .nil
  | d :: ds, _, p, .cons h r => by
    have p' : plain d = true ∧ plainA ds = true := by simpa [plainA] using p
    exact .cons (Rp.dp e p'.1 h) (RpA.dp e p'.2 r)
end

/-! ### new things -/
theorem Out.newT {σ : L2.St} {vs : List V} {ds : List D} {T : VK → Prop} (S : Sim K g w μ) (r : RpA K w.as w.F vs ds) (h : ∀ Q : VK, (∀ p, w.H p = none → Q (.ref p) (upd w.H p (.tup vs))) → T Q) :
    Out K g W σ w (RelD K) (.ok (.tuple ds) μ) T := fun Q q => h Q fun p hp =>
  q (w.put p (.tup vs)) _ (S.putLe hp) (S.put hp) (.tup (.inl (.inl Wd.put_F)) (r.le (S.putLe (o := .tup vs) hp)))
theorem Out.newL {σ : L2.St} {vs : List V} {ds : List D} {T : VK → Prop} (S : Sim K g w μ) (r : RpA K w.as w.F vs ds) (h : ∀ Q : VK, (∀ p, w.H p = none → Q (.ref p) (upd w.H p (.lst vs))) → T Q) :
    Out K g W σ w (RelD K) (.ok (.list ds) μ) T := fun Q q => h Q fun p hp =>
  q (w.put p (.lst vs)) _ (S.putLe hp) (S.put hp) (.lst Wd.put_F (r.le (S.putLe (o := .lst vs) hp)))
theorem Out.newO {σ : L2.St} {vs : List V} {ds : List D} {T : VK → Prop} (S : Sim K g w μ) (r : RpA K w.as w.F vs ds) (h : ∀ Q : VK, (∀ p, w.H p = none → Q (.ref p) (upd w.H p (.lst vs))) → T Q) :
    Out K g W σ w (RelL K w) (.ok ds μ) T := fun Q q => h Q fun p hp =>
  q (w.lay p (.lst vs)) _ (S.layLe hp) (S.lay (S.sub.none hp) (S.notas hp)) ⟨p, vs, rfl, hp, S.sub.none hp, S.notas hp, upd_same, r⟩
end

/-! ### names and constants -/
section
variable {X : Cx} {g : G} {W : WX} {a b c : Expr} {ta tb tc : TE} {fa fb fc : DE} {pos : Pos}
def dVar (i : Nat) : DE := fun sd μ => match sd[i]? with
  | some (some (.v d)) => .ok d μ
  | _ => .bad
def dC (d : D) : DE := fun _ μ => .ok d μ
theorem ev_var {K : Frag} (i : Nat) : EvD K g W (tVar i) (dVar i) := fun H0 sd μ w σ SS S => by
  unfold dVar
  split
  · rename_i d e
    obtain ⟨x, h1, r⟩ := SS.at_ i _ e
    exact Out.ok S r fun Q q => ⟨x, h1, q⟩
  · trivial
theorem d_var (i : Nat) {x : Str} (hN : X.N[i]? = some x := by rfl) (hv : Vis X.env.scope x := by first | exact Or.inl rfl | exact Or.inr (Or.inl rfl) | exact Or.inr (Or.inr rfl)) (hd : (x == ("__debug__" : Str)) = false := by decide)
    (hcd : (x == ("__classdict__" : Str)) = false := by decide) : PED X g W (.Name x pos) (tVar i) (dVar i) := ⟨pe_var hN hv hd hcd, ev_var i⟩
theorem ev_c {K : Frag} {v : V} {d : D} (r : ∀ as F, Rp K as F v d) : EvD K g W (tC v) (dC d) := fun _ _ _ _ _ _ S => Out.ok S (r _ _) fun _ q => q
theorem d_int {i : Int} {j} : PED X g W (.Constant (.int i) j pos) (tC (.int i)) (dC (.int i)) := ⟨pe_int, ev_c fun _ _ => .int i⟩
theorem d_bool {i : Bool} {j} : PED X g W (.Constant (.bool i) j pos) (tC (.bl i)) (dC (.bool i)) := ⟨pe_bl, ev_c fun _ _ => .bl i⟩
theorem d_none {j} : PED X g W (.Constant .none j pos) (tC .non) (dC .none) := ⟨pe_non, ev_c fun _ _ => .non⟩
theorem d_str {i : Str} {j} : PED X g W (.Constant (.str i) j pos) (tC (.str i)) (dC (.str i)) := ⟨pe_str, ev_c fun _ _ => .str i⟩
/-- a module's constant -/
structure Gc (K : Frag) (mg : Str → Option Value) (x : Str) (v : V) (d : D) : Prop where
  at_ : ∃ u, mg x = some u ∧ RelV v u
  rp : ∀ as F, Rp K as F v d
theorem d_glob {x : Str} {v : V} {d : D} (h : Gc X.K X.mg x v d) (hg : Gl X x := by rfl) (hd : (x == ("__debug__" : Str)) = false := by decide) : PED X g W (.Name x pos) (tC v) (dC d) := by
  obtain ⟨u, hm, r⟩ := h.at_
  exact ⟨pe_glob hg hm r hd, ev_c h.rp⟩
/-- a new list, shared from now on -/
def dShare (f : DA) : DE := fun sd μ => (f sd μ).bind fun ds μ1 => .ok (.list ds) μ1
theorem share_le {K : Frag} {g : G} {w w1 : Wd} {μ1 : Mu} {p : Addr} {vs : List V} (l1 : Le w w1) (S1 : Sim K g w1 μ1) (h0 : w.H p = none) (hF : w1.F p = none) (hn : p ∉ w1.as) (hH : w1.H p = some (.lst vs)) :
    Le w ⟨w1.as, upd w1.F p (.lst vs), w1.H⟩ ∧ Sim K g ⟨w1.as, upd w1.F p (.lst vs), w1.H⟩ μ1 ∧ Wk w1 ⟨w1.as, upd w1.F p (.lst vs), w1.H⟩ := by
  have e : Ex w1.F (upd w1.F p (.lst vs)) := Ex.new hF
  refine ⟨⟨l1.pre, l1.ex.trans e, fun a o ha => ?_, l1.keep, l1.news, l1.mono⟩, ⟨fun a o ha => ?_, S1.nd, S1.len, fun k c hc => ?_⟩, ⟨.refl _, e⟩⟩
  · have ha : (upd w1.F p (.lst vs)) a = some o := ha
    by_cases hp : a = p
    · exact .inr (by rw [hp]; exact h0)
    · rw [upd_ne hp] at ha; exact l1.fresh a o ha
  · have ha : (upd w1.F p (.lst vs)) a = some o := ha
    by_cases hp : a = p
    · subst hp; rw [upd_same] at ha; cases ha; exact hH
    · rw [upd_ne hp] at ha; exact S1.sub a o ha
  · obtain ⟨a, e1, f1, x1⟩ := S1.cell k c hc
    have hp : a ≠ p := fun z => hn (by rw [← z]; exact List.mem_of_getElem? e1)
    exact ⟨a, e1, (upd_ne hp).trans f1, Sim.cellMono (w := w1) (.refl _) e rfl x1⟩
theorem ev_share {K : Frag} {te : TE} {f : DA} (h : EvL K g W te f) : EvD K g W te (dShare f) := fun H0 sd μ w σ SS S => by
  have z := h H0 sd μ w σ SS S
  unfold dShare
  cases e : f sd μ with
  | ok ds μ1 =>
    rw [e] at z
    refine fun Q q => z Q fun w1 x l1 S1 r => ?_
    obtain ⟨p, vs, rfl, h0, hF, hn, hH, r⟩ := r
    obtain ⟨l2, S2, k2⟩ := share_le l1 S1 h0 hF hn hH
    exact q ⟨w1.as, upd w1.F p (.lst vs), w1.H⟩ _ l2 S2 (.lst upd_same (r.wk k2))
  | exc c μ1 =>
    rw [e] at z
    exact z
  | bad => trivial
theorem d_share {e : Expr} {te : TE} {f : DA} (h : PLD X g W e te f) : PED X g W e te (dShare f) := ⟨h.pe, ev_share h.ev⟩

/-! ### operators -/
def R2D (K : Frag) (g : G) (W : WX) (r : R2) (f : D → D → Option D) : Prop := ∀ μ w σ x y d e z, Sim K g w μ → Rp K w.as w.F x d → Rp K w.as w.F y e → f d e = some z → Out K g W σ w (RelD K) (.ok z μ) fun Q => r x y w.H Q
def dBin (f : D → D → Option D) (fa fb : DE) : DE := fun sd μ => (fa sd μ).bind fun x μ1 => (fb sd μ1).bind fun y μ2 => lift (f x y) μ2
theorem ev_bin {K : Frag} {r : R2} {f : D → D → Option D} (hr : R2D K g W r f) (ha : EvD K g W ta fa) (hb : EvD K g W tb fb) : EvD K g W (tOp r ta tb) (dBin f fa fb) := fun H0 sd μ w σ SS S => by
  refine Out.bind (T1 := fun x H Q => tb σ H fun y H2 => r x y H2 Q) (ha H0 sd μ w σ SS S) fun x μ1 w1 xv l1 S1 rx => ?_
  refine Out.bind (T1 := fun y H2 Q => r xv y H2 Q) (hb H0 sd μ1 w1 σ (SS.le l1) S1) fun y μ2 w2 yv l2 S2 ry => ?_
  exact Out.lift fun z hz => hr μ2 w2 σ xv yv x y z S2 (rx.le l2) ry hz
end

/-! ### + - * // % ** -/
section
variable {K : Frag} {g : G} {W : WX}
def pyAdd : D → D → Option D
  | .int i, .int j => some (.int (i + j))
  | .str x, .str y => if x.length + y.length ≤ 100000 then some (.str (x ++ y)) else none
  | .list xs, .list ys => if xs.length + ys.length ≤ 100000 then some (.list (xs ++ ys)) else none
  | .tuple xs, .tuple ys => if xs.length + ys.length ≤ 100000 then some (.tuple (xs ++ ys)) else none
  | _, _ => none
theorem sizeL {n : Nat} (h : n ≤ 100000) : n ≤ sizeLine := Nat.le_trans h (by decide)
theorem sizeLt {n : Nat} (h : n < 100000) : n < sizeLine := Nat.lt_of_lt_of_le h (by decide)
def rAddA (K : Frag) : R2 := fun x y H Q => (rI0 (fun i j => .int (i + j)) x y H Q ∨ (∃ i j, x = .str i ∧ y = .str j ∧ i.length + j.length ≤ sizeLine ∧ Q (.str (i ++ j)) H)) ∨ (rCat x y H Q ∨ rCatA K x y H Q)
theorem op_addA {X : Cx} : OpR X (binaryOp .Add) (rAddA X.K) := (op_add.or op_add_str).or (op_cat.or op_catA)
theorem rd_add : R2D K g W (rAddA K) pyAdd := fun μ w σ x y d e z S rx ry hz => by
  unfold pyAdd at hz
  split at hz
  · cases hz
    rw [rx.intV, ry.intV]
    exact Out.ok S (.int _) fun Q q => .inl (.inl ⟨_, _, rfl, rfl, q⟩)
  · split at hz
    · rename_i hl
      cases hz
      rw [rx.strV, ry.strV]
      exact Out.ok S (.str _) fun Q q => .inl (.inr ⟨_, _, rfl, rfl, sizeL hl, q⟩)
    · cases hz
  · split at hz
    · rename_i hl
      cases hz
      obtain ⟨a, xs, rfl, ha, ra⟩ := rx.lstV
      obtain ⟨b, ys, rfl, hb, rb⟩ := ry.lstV
      exact Out.newL S (ra.append rb) fun Q q => .inr (.inl ⟨a, b, xs, ys, rfl, rfl, S.sub _ _ ha, S.sub _ _ hb, sizeL (by rw [ra.length, rb.length]; exact hl), q⟩)
    · cases hz
  · split at hz
    · rename_i xs' ys' hl
      cases hz
      obtain ⟨a, xs, rfl, ha, ra⟩ := rx.tupV
      obtain ⟨b, ys, rfl, hb, rb⟩ := ry.tupV
      have hsz : xs.length + ys.length ≤ sizeLine := sizeL (by rw [ra.length, rb.length]; exact hl)
      have ha' := S.sub.sqT ha
      have hb' := S.sub.sqT hb
      by_cases h1 : xs = []
      · subst h1
        cases ra
        exact Out.ok S (.tup hb rb) fun Q q => .inr (.inr ⟨a, b, [], ys, rfl, rfl, ha', hb', hsz, fun _ => q, fun h => absurd rfl h, fun h => absurd rfl h⟩)
      · by_cases h2 : ys = []
        · subst h2
          cases rb
          rw [List.append_nil]
          exact Out.ok S (.tup ha ra) fun Q q => .inr (.inr ⟨a, b, xs, [], rfl, rfl, ha', hb', hsz, fun h => absurd h h1, fun _ _ => q, fun _ h => absurd rfl h⟩)
        · exact Out.newT S (ra.append rb) fun Q q => .inr (.inr ⟨a, b, xs, ys, rfl, rfl, ha', hb', hsz, fun h => absurd h h1, fun _ h => absurd h h2, fun _ _ => q⟩)
    · cases hz
  · cases hz
def pySub : D → D → Option D
  | .int i, .int j => some (.int (i - j))
  | _, _ => none
theorem rd_sub : R2D K g W (rI0 fun i j => .int (i - j)) pySub := fun μ w σ x y d e z S rx ry hz => by
  unfold pySub at hz
  split at hz
  · cases hz
    rw [rx.intV, ry.intV]
    exact Out.ok S (.int _) fun Q q => ⟨_, _, rfl, rfl, q⟩
  · cases hz
/-- // by a small positive number, % by a positive one, ** small -/
def pyDiv : D → D → Option D
  | .int i, .int j => if 0 < j ∧ j < 1073741824 then some (.int (i / j)) else none
  | _, _ => none
theorem rd_div : R2D K g W (rI CDiv fun i j => .int (i / j)) pyDiv := fun μ w σ x y d e z S rx ry hz => by
  unfold pyDiv at hz
  split at hz
  · split at hz
    · rename_i h
      cases hz
      rw [rx.intV, ry.intV]
      exact Out.ok S (.int _) fun Q q => ⟨_, _, rfl, rfl, h, q⟩
    · cases hz
  · cases hz
def pyMod : D → D → Option D
  | .int i, .int j => if 0 < j then some (.int (i % j)) else none
  | _, _ => none
theorem rd_mod : R2D K g W (rI (fun _ j => 0 < j) fun i j => .int (i % j)) pyMod := fun μ w σ x y d e z S rx ry hz => by
  unfold pyMod at hz
  split at hz
  · split at hz
    · rename_i h
      cases hz
      rw [rx.intV, ry.intV]
      exact Out.ok S (.int _) fun Q q => ⟨_, _, rfl, rfl, h, q⟩
    · cases hz
  · cases hz
def pyPow : D → D → Option D
  | .int i, .int j => if 0 ≤ j ∧ j ≤ 1000000 ∧ i.natAbs < 2 ^ 64 then some (.int (i ^ j.toNat)) else none
  | _, _ => none
theorem rd_pow : R2D K g W (rI CPow fun i j => .int (i ^ j.toNat)) pyPow := fun μ w σ x y d e z S rx ry hz => by
  unfold pyPow at hz
  split at hz
  · split at hz
    · rename_i h
      cases hz
      rw [rx.intV, ry.intV]
      exact Out.ok S (.int _) fun Q q => ⟨_, _, rfl, rfl, h, q⟩
    · cases hz
  · cases hz
end
end DL

set_option maxHeartbeats 4000000
/-! DLTup: a tuple times 0 and times 1. -/
namespace DL
open PySem PySem.Spec PyProof.Rows L2
theorem tup_mul1 (l : Addr) (items : Array Value) (n : Nat) (dd : Option Addr) (sl : Array (Option Value)) (u : Tok) :
    Meets (Builtin.«tuple.__mul__» ⟨[.ref l, .int 1 u], []⟩) (fun _ R s => s.heap.get? l = some { cls := .type "tuple", dict := dd, data := .seq items n, slots := sl } ∧
      R (.ok (.ret (Value.ref l))) s) :=
  .of_wp fun prog w A R s h => by
    obtain ⟨hp, g, d, tk, os⟩ := s
    obtain ⟨hl, h⟩ := h
    have f1 := AutoSeq1.idx_int
    wp_walk using wpAny_loadPart' hl
    exact ⟨_, rfl, h⟩
theorem tup_mul0 (l : Addr) (items : Array Value) (n : Nat) (dd : Option Addr) (sl : Array (Option Value)) (u : Tok) (hi : items.isEmpty = false) :
    Meets (Builtin.«tuple.__mul__» ⟨[.ref l, .int 0 u], []⟩) (fun _ R s => s.heap.get? l = some { cls := .type "tuple", dict := dd, data := .seq items n, slots := sl } ∧
      R (.ok (.ret (Value.ref s.heap.objs.size))) { s with heap := s.heap.push { cls := Value.type "tuple", data := Data.seq #[] } }) :=
  .of_wp fun prog w A R s h => by
    obtain ⟨hp, g, d, tk, os⟩ := s
    obtain ⟨hl, h⟩ := h
    have f1 := AutoSeq1.idx_int
    wp_walk using wpAny_loadPart' hl
    exact ⟨_, rfl, h⟩
/-- t * k -/
def rRepA (K : PySem.W.Frag) : R2 := fun x y H Q => ∃ l k xs, x = .ref l ∧ y = .int k ∧ SqT K H l xs ∧ xs ≠ [] ∧ 0 ≤ k ∧ k ≤ 1000 ∧ xs.length ≤ 1000 ∧
  (k = 1 → Q (.ref l) H) ∧ (k ≠ 1 → ∀ p, H p = none → Q (.ref p) (upd H p (.tup (List.replicate k.toNat xs).flatten)))
theorem op_repA {X : Cx} : OpR X (binaryOp .Mult) (rRepA X.K) := by
  intro pins s σ H x y v u Q I rx ry h
  obtain ⟨l, k, xs, rfl, rfl, hT, hne, h1, h2, hz, q1, q2⟩ := h
  by_cases c : 2 ≤ k
  · exact op_repT pins s σ H _ _ v u Q I rx ry ⟨l, k, xs, rfl, rfl, hT, hne, c, h2, hz, q2 (by omega)⟩
  · cases rx
    obtain ⟨t, rfl⟩ := ry
    obtain ⟨its, r, ⟨⟨cls, dd, data, sl⟩, ho, hc, n, hd⟩, hs⟩ := I.tuple hT
    simp only at hc hd
    subst hc hd
    have hn : its ≠ [] := fun e => hne (by
      have := r.length
      rw [e] at this
      exact List.eq_nil_of_length_eq_zero this)
    have hi : its.toArray.isEmpty = false := by
      cases its with
      | nil => exact absurd rfl hn
      | cons a b => rfl
    have hk : k = 1 ∨ k = 0 := by omega
    rcases hk with rfl | rfl
    · exact wpAny_binaryOp_repeat_ref (T := "tuple") (U := "int") (by decide) ⟨_, ho, rfl⟩ (fun s' => typeIs_int s' 1 t) noFill_tuple_mul F.fills_int_mul F.slot_int_rmul repeat_tuple F.slot_int_index.lookup
        (call_meets F.slot_int_rmul (typeIs_int s 1 t) F.entry_int_rmul (F.args_int_rmul_2 _ _) (int_rmul_tuple 1 t l its.toArray n dd sl)
          ⟨ho, rfl, ⟨_, ho, rfl⟩, call_meets F.slot_tuple_mul ⟨_, ho, rfl⟩ F.entry_tuple_mul (F.args_tuple_mul_2 _ _) (tup_mul1 l its.toArray n dd sl t) ⟨ho, ⟨.ref l, H, I, rfl, q1 rfl⟩⟩⟩)
    · refine wpAny_binaryOp_repeat_ref (T := "tuple") (U := "int") (by decide) ⟨_, ho, rfl⟩ (fun s' => typeIs_int s' 0 t) noFill_tuple_mul F.fills_int_mul F.slot_int_rmul repeat_tuple F.slot_int_index.lookup
        (call_meets F.slot_int_rmul (typeIs_int s 0 t) F.entry_int_rmul (F.args_int_rmul_2 _ _) (int_rmul_tuple 0 t l its.toArray n dd sl)
          ⟨ho, rfl, ⟨_, ho, rfl⟩, call_meets F.slot_tuple_mul ⟨_, ho, rfl⟩ F.entry_tuple_mul (F.args_tuple_mul_2 _ _) (tup_mul0 l its.toArray n dd sl t hi) ⟨ho, ?_⟩⟩)
      refine ⟨.ref s.heap.objs.size, _, I.laid (t' := s.toks) (o := .tup (List.replicate (0 : Int).toNat xs).flatten) (fun b ob q => Heap.get?_push_of_some _ q) (Nat.le_refl _) ?_, rfl, q2 (by decide) _ (I.hok.fresh (Nat.le_refl _))⟩
      exact ⟨Nat.zero_le _, [], .nil, IsTup.new _ _⟩
end DL

set_option maxHeartbeats 4000000
/-! DLOps: more operators, comparisons, tests, displays, subscripts, isinstance. -/
namespace DL
open PySem L2
section
variable {X : Cx} {g : G} {W : WX} {a b c : Expr} {ta tb tc : TE} {fa fb fc : DE} {pos : Pos}
theorem d_bin {op : Operator} {r : R2} {f : D → D → Option D} (ho : OpR X (binaryOp op) r) (hr : R2D X.K g W r f) (ha : PED X g W a ta fa) (hb : PED X g W b tb fb) : PED X g W (.BinOp a op b pos) (tOp r ta tb) (dBin f fa fb) :=
  ⟨pe_op ho ha.pe hb.pe, ev_bin hr ha.ev hb.ev⟩
theorem d_add (ha : PED X g W a ta fa) (hb : PED X g W b tb fb) : PED X g W (.BinOp a .Add b pos) (tOp (rAddA X.K) ta tb) (dBin pyAdd fa fb) := d_bin op_addA rd_add ha hb
theorem d_sub (ha : PED X g W a ta fa) (hb : PED X g W b tb fb) : PED X g W (.BinOp a .Sub b pos) (tOp (rI0 fun i j => .int (i - j)) ta tb) (dBin pySub fa fb) := d_bin op_sub rd_sub ha hb
theorem d_div (ha : PED X g W a ta fa) (hb : PED X g W b tb fb) : PED X g W (.BinOp a .FloorDiv b pos) (tOp (rI CDiv fun i j => .int (i / j)) ta tb) (dBin pyDiv fa fb) := d_bin op_fdiv rd_div ha hb
theorem d_mod (ha : PED X g W a ta fa) (hb : PED X g W b tb fb) : PED X g W (.BinOp a .Mod b pos) (tOp (rI (fun _ j => 0 < j) fun i j => .int (i % j)) ta tb) (dBin pyMod fa fb) := d_bin op_mod rd_mod ha hb
theorem d_pow (ha : PED X g W a ta fa) (hb : PED X g W b tb fb) : PED X g W (.BinOp a .Pow b pos) (tOp (rI CPow fun i j => .int (i ^ j.toNat)) ta tb) (dBin pyPow fa fb) := d_bin op_pow rd_pow ha hb
end

/-! ### * -/
section
variable {K : Frag} {g : G} {W : WX}
theorem RpA.rep {as : List Addr} {F : Hp} {vs : List V} {ds : List D} (r : RpA K as F vs ds) : ∀ k : Nat, RpA K as F (List.replicate k vs).flatten (List.replicate k ds).flatten
  | 0 => .nil
  | k + 1 => by
    rw [List.replicate_succ, List.replicate_succ, List.flatten_cons, List.flatten_cons]
    exact r.append (r.rep k)
def pyMul : D → D → Option D
  | .int i, .int j => if (-(2 ^ 64) < i ∧ i < 2 ^ 64) ∨ (-(2 ^ 64) < j ∧ j < 2 ^ 64) then some (.int (i * j)) else none
  | .list xs, .int k => if 0 ≤ k ∧ k ≤ 1000 ∧ xs.length * k.toNat ≤ 100000 then some (.list (List.replicate k.toNat xs).flatten) else none
  | .tuple xs, .int k => if xs ≠ [] ∧ 0 ≤ k ∧ k ≤ 1000 ∧ xs.length ≤ 1000 then some (.tuple (List.replicate k.toNat xs).flatten) else none
  | _, _ => none
def rMulA (K : Frag) : R2 := fun x y H Q => rI CMul (fun i j => .int (i * j)) x y H Q ∨ (rRep x y H Q ∨ rRepA K x y H Q)
theorem op_mulA {X : Cx} : OpR X (binaryOp .Mult) (rMulA X.K) := op_mul.or (op_rep.or op_repA)
theorem rd_mul : R2D K g W (rMulA K) pyMul := fun μ w σ x y d e z S rx ry hz => by
  unfold pyMul at hz
  split at hz
  · split at hz
    · rename_i h
      cases hz
      rw [rx.intV, ry.intV]
      exact Out.ok S (.int _) fun Q q => .inl ⟨_, _, rfl, rfl, h, q⟩
    · cases hz
  · split at hz
    · rename_i h
      cases hz
      rw [ry.intV]
      obtain ⟨a, xs, rfl, ha, ra⟩ := rx.lstV
      exact Out.newL S (ra.rep _) fun Q q => .inr (.inl ⟨a, _, xs, rfl, rfl, S.sub _ _ ha, by omega, by omega, sizeL (by rw [ra.length]; exact h.2.2), q⟩)
    · cases hz
  · split at hz
    · rename_i xs' k h
      cases hz
      rw [ry.intV]
      obtain ⟨a, xs, rfl, ha, ra⟩ := rx.tupV
      have hne : xs ≠ [] := fun e => h.1 (by
        subst e
        cases ra
        rfl)
      by_cases hk : k = 1
      · subst hk
        have e : (List.replicate (1 : Int).toNat xs').flatten = xs' := by simp
        rw [e]
        exact Out.ok S (.tup ha ra) fun Q q => .inr (.inr ⟨a, _, xs, rfl, rfl, S.sub.sqT ha, hne, h.2.1, h.2.2.1, by rw [ra.length]; exact h.2.2.2, fun _ => q, fun h => absurd rfl h⟩)
      · exact Out.newT S (ra.rep _) fun Q q => .inr (.inr ⟨a, _, xs, rfl, rfl, S.sub.sqT ha, hne, h.2.1, h.2.2.1, by rw [ra.length]; exact h.2.2.2, fun h => absurd h hk, fun _ => q⟩)
    · cases hz
  · cases hz
end
theorem d_mul {X : Cx} {g : G} {W : WX} {a b : Expr} {ta tb : TE} {fa fb : DE} {pos : Pos} (ha : PED X g W a ta fa) (hb : PED X g W b tb fb) : PED X g W (.BinOp a .Mult b pos) (tOp (rMulA X.K) ta tb) (dBin pyMul fa fb) := d_bin op_mulA rd_mul ha hb

/-! ### comparisons -/
section
variable {K : Frag} {g : G} {W : WX}
/-- the script read as a list -/
def unscr : D → D
  | .dict [(.bool true, .list ds)] => .list ds
  | d => d
theorem Rp.dpU {as : List Addr} {F H : Hp} {d : D} {v : V} (e : Ex F H) (p : plain (unscr d) = true) (r : Rp K as F v d) : Dp K H v (unscr d) := by
  cases r with
  | non => exact .non
  | bl b => exact .bl b
  | int i => exact .int i
  | str x => exact .str x
  | lst h r => exact Rp.dp e p (.lst h r)
  | tup h r => exact Rp.dp e p (.tup h r)
  | @scr _ _ ds h r =>
    have p : plainA ds = true := by simpa [unscr, plain] using p
    exact .lst (e.sqL h) (RpA.dp e p r)
  | tok h => simp [unscr, plain] at p
open SeqAt (shaped)
def pyEq (d e : D) : Option D := if shaped (unscr d) = true ∧ shaped (unscr e) = true then some (.bool (PyData.eqv (unscr d) (unscr e))) else none
def pyNe (d e : D) : Option D := if shaped (unscr d) = true ∧ shaped (unscr e) = true then some (.bool (!PyData.eqv (unscr d) (unscr e))) else none
theorem plain_shaped {d : D} (h : shaped d = true) : plain d = true := plain_of_lay d (SeqAt.canLay_of_shaped h)
theorem rd_eq : R2D K g W (rEqD K) pyEq := fun μ w σ x y d e z S rx ry hz => by
  unfold pyEq at hz
  split at hz
  · rename_i h
    cases hz
    exact Out.ok S (.bl _) fun Q q => ⟨_, _, rx.dpU S.sub (plain_shaped h.1), ry.dpU S.sub (plain_shaped h.2), h.1, h.2, q⟩
  · cases hz
theorem rd_ne : R2D K g W (rNeD K) pyNe := fun μ w σ x y d e z S rx ry hz => by
  unfold pyNe at hz
  split at hz
  · rename_i h
    cases hz
    exact Out.ok S (.bl _) fun Q q => ⟨_, _, rx.dpU S.sub (plain_shaped h.1), ry.dpU S.sub (plain_shaped h.2), h.1, h.2, q⟩
  · cases hz
def pyCmp (p : Int → Int → Bool) : D → D → Option D
  | .int i, .int j => some (.bool (p i j))
  | _, _ => none
theorem rd_cmp (p : Int → Int → Bool) : R2D K g W (rI0 fun i j => .bl (p i j)) (pyCmp p) := fun μ w σ x y d e z S rx ry hz => by
  unfold pyCmp at hz
  split at hz
  · cases hz
    rw [rx.intV, ry.intV]
    exact Out.ok S (.bl _) fun Q q => ⟨_, _, rfl, rfl, q⟩
  · cases hz
abbrev pyLt := pyCmp fun i j => decide (i < j)
abbrev pyLe := pyCmp fun i j => decide (i ≤ j)
abbrev pyGt := pyCmp fun i j => decide (j < i)
abbrev pyGe := pyCmp fun i j => decide (j ≤ i)
/-- is -/
def isNone : D → Bool
  | .none => true
  | _ => false
def pyIs (neg : Bool) : D → D → Option D
  | d, .none => some (.bool (neg != isNone d))
  | .bool a, .bool b => some (.bool (neg != decide (a = b)))
  | _, _ => none
def rIs : R2 := fun x y H Q => (y = .non ∧ Q (.bl (decide (x = .non))) H) ∨ rIsB x y H Q
def rIsNot : R2 := fun x y H Q => (y = .non ∧ Q (.bl (!decide (x = .non))) H) ∨ rNotB x y H Q
theorem op_isA {X : Cx} : OpR X (compareOp .Is) rIs := op_isN.or op_isBl
theorem op_isNotA {X : Cx} : OpR X (compareOp .IsNot) rIsNot := op_notN.or op_notBl
theorem Rp.isNone {as : List Addr} {F : Hp} {d : D} {v : V} (r : Rp K as F v d) : decide (v = .non) = DL.isNone d := by
  cases r <;> simp [DL.isNone]
theorem rd_is : R2D K g W rIs (pyIs false) := fun μ w σ x y d e z S rx ry hz => by
  unfold pyIs at hz
  split at hz
  · cases hz
    rw [ry.nonV]
    exact Out.ok S (.bl _) fun Q q => .inl ⟨rfl, by rw [rx.isNone]; simpa using q⟩
  · cases hz
    rw [rx.blV, ry.blV]
    exact Out.ok S (.bl _) fun Q q => .inr ⟨_, _, rfl, rfl, by simpa using q⟩
  · cases hz
theorem rd_isNot : R2D K g W rIsNot (pyIs true) := fun μ w σ x y d e z S rx ry hz => by
  unfold pyIs at hz
  split at hz
  · cases hz
    rw [ry.nonV]
    exact Out.ok S (.bl _) fun Q q => .inl ⟨rfl, by rw [rx.isNone]; simpa using q⟩
  · cases hz
    rw [rx.blV, ry.blV]
    exact Out.ok S (.bl _) fun Q q => .inr ⟨_, _, rfl, rfl, by simpa using q⟩
  · cases hz
/-- in -/
def flatD : D → Bool
  | .none | .bool _ | .int _ | .str _ => true
  | _ => false
theorem Rp.flat {as : List Addr} {F : Hp} {d : D} {v : V} (r : Rp K as F v d) (h : flatD d = true) : flatV v = true := by
  cases r <;> first | rfl | (simp [flatD] at h)
theorem RpA.flat {as : List Addr} {F : Hp} : ∀ {ds : List D} {vs : List V}, RpA K as F vs ds → ds.all flatD = true → vs.all flatV = true
  | _, _, .nil, _ => rfl
  | _, _, .cons r t, h => by
    simp only [List.all_cons, Bool.and_eq_true] at h ⊢
    exact ⟨r.flat h.1, RpA.flat t h.2⟩
theorem Rp.eqV {as : List Addr} {F : Hp} {d e : D} {v u : V} (r : Rp K as F v d) (q : Rp K as F u e) (h : flatD d = true) (h' : flatD e = true) : L2.eqV v u = PyData.eqv d e := by
  cases r <;> first
    | (cases q <;> first | (simp [L2.eqV, PyData.eqv]; done) | (simp [flatD] at h'; done))
    | (simp [flatD] at h)
theorem RpA.inV {as : List Addr} {F : Hp} {d : D} {v : V} (r : Rp K as F v d) (h : flatD d = true) : ∀ {ds : List D} {vs : List V}, RpA K as F vs ds → ds.all flatD = true → L2.inV v vs = ds.any fun z => PyData.eqv z d
  | _, _, .nil, _ => rfl
  | _, _, .cons q t, h' => by
    simp only [List.all_cons, Bool.and_eq_true] at h'
    have ih := RpA.inV r h t h'.2
    unfold L2.inV at ih ⊢
    rw [List.any_cons, List.any_cons, ih, q.eqV r h'.1 h]
def pyIn0 : D → D → Option Bool
  | d, .list ds => if shaped d = true ∧ shaped (.list ds) = true then some (ds.any fun z => PyData.eqv z d) else none
  | .str x, .str z => match x.cps.toList with
    | [c] => some (decide (c ∈ z.cps.toList))
    | _ => none
  | d, .tuple ds => if flatD d = true ∧ ds.all flatD = true then some (ds.any fun z => PyData.eqv z d) else none
  | _, _ => none
def pyIn (d e : D) : Option D := (pyIn0 d e).map .bool
def pyNotIn (d e : D) : Option D := (pyIn0 d e).map fun b => .bool (!b)
def rInA (K : Frag) : R2 := fun x y H Q => (rInD K x y H Q ∨ rIn K false x y H Q) ∨ (∃ (c : Nat) (z : Str), x = .str ⟨#[c]⟩ ∧ y = .str z ∧ Q (.bl (decide (c ∈ z.cps.toList))) H)
def rNotInA (K : Frag) : R2 := fun x y H Q => (rNotInD K x y H Q ∨ rIn K true x y H Q) ∨ (∃ (c : Nat) (z : Str), x = .str ⟨#[c]⟩ ∧ y = .str z ∧ Q (.bl (!decide (c ∈ z.cps.toList))) H)
theorem op_inA {X : Cx} (hu : X.A.units + 65 < cLine) : OpR X (compareOp .In) (rInA X.K) := ((op_inD hu).or op_in_seq).or op_in_sign
theorem op_notInA {X : Cx} (hu : X.A.units + 65 < cLine) : OpR X (compareOp .NotIn) (rNotInA X.K) := ((op_notInD hu).or op_notIn_seq).or op_notIn_sign
theorem str_one {x : Str} {c : Nat} (h : x.cps.toList = [c]) : x = ⟨#[c]⟩ := by
  obtain ⟨a⟩ := x
  have : a = #[c] := by
    apply Array.ext'
    simpa using h
  rw [this]
theorem in_two {σ : L2.St} {μ : Mu} {w : Wd} {x y : V} {d e : D} {b : Bool} (S : Sim K g w μ) (rx : Rp K w.as w.F x d) (ry : Rp K w.as w.F y e) (hz : pyIn0 d e = some b) :
    (∀ Q : VK, Q (.bl b) w.H → rInA K x y w.H Q) ∧ (∀ Q : VK, Q (.bl (!b)) w.H → rNotInA K x y w.H Q) := by
  unfold pyIn0 at hz
  split at hz
  · split at hz
    · rename_i ds h
      cases hz
      have r1 := rx.dp S.sub (plain_shaped h.1)
      have r2 := ry.dp S.sub (plain_shaped h.2)
      exact ⟨fun Q q => .inl (.inl ⟨d, ds, r1, r2, h.1, h.2, q⟩), fun Q q => .inl (.inl ⟨d, ds, r1, r2, h.1, h.2, q⟩)⟩
    · cases hz
  · split at hz
    · rename_i c e
      cases hz
      rw [rx.strV, ry.strV, str_one e]
      exact ⟨fun Q q => .inr ⟨_, _, rfl, rfl, q⟩, fun Q q => .inr ⟨_, _, rfl, rfl, q⟩⟩
    · cases hz
  · split at hz
    · rename_i h
      cases hz
      obtain ⟨a, xs, rfl, ha, ra⟩ := ry.tupV
      have e := RpA.inV rx h.1 ra h.2
      exact ⟨fun Q q => .inl (.inr ⟨a, xs, rfl, .inr (S.sub.sqT ha), rx.flat h.1, ra.flat h.2, by rw [e]; exact q⟩), fun Q q => .inl (.inr ⟨a, xs, rfl, .inr (S.sub.sqT ha), rx.flat h.1, ra.flat h.2, by rw [e]; exact q⟩)⟩
    · cases hz
  · cases hz
theorem rd_in : R2D K g W (rInA K) pyIn := fun μ w σ x y d e z S rx ry hz => by
  unfold pyIn at hz
  cases q : pyIn0 d e with
  | none => rw [q] at hz; cases hz
  | some b =>
    rw [q] at hz
    cases hz
    exact Out.ok S (.bl _) fun Q k => (in_two (σ := σ) S rx ry q).1 Q k
theorem rd_notIn : R2D K g W (rNotInA K) pyNotIn := fun μ w σ x y d e z S rx ry hz => by
  unfold pyNotIn at hz
  cases q : pyIn0 d e with
  | none => rw [q] at hz; cases hz
  | some b =>
    rw [q] at hz
    cases hz
    exact Out.ok S (.bl _) fun Q k => (in_two (σ := σ) S rx ry q).2 Q k
end

section
variable {X : Cx} {g : G} {W : WX} {a b c : Expr} {ta tb tc : TE} {fa fb fc : DE} {pos : Pos}
theorem d_cmp {op : CmpOp} {r : R2} {f : D → D → Option D} (ho : OpR X (compareOp op) r) (hr : R2D X.K g W r f) (ha : PED X g W a ta fa) (hb : PED X g W b tb fb) (hm : behindInMarks op b = false) : PED X g W (.Compare a [op] [b] pos) (tOp r ta tb) (dBin f fa fb) :=
  ⟨pe_cmpR ho ha.pe hb.pe hm, ev_bin hr ha.ev hb.ev⟩
/-- as a test -/
def asB : D → Option Bool
  | .bool b => some b
  | _ => none
def dTest (f : DE) : DT := fun sd μ => (f sd μ).bind fun d μ1 => lift (asB d) μ1
theorem ev_test {K : Frag} (h : EvD K g W ta fa) : EvT K g W (tTest ta) (dTest fa) := fun H0 sd μ w σ SS S => by
  refine Out.bind (T1 := fun x H Q => ∃ k, x = .bl k ∧ Q k H) (h H0 sd μ w σ SS S) fun d μ1 w1 x l1 S1 r => ?_
  cases d with
  | bool b =>
    cases r
    exact Out.ok S1 rfl fun Q q => ⟨b, rfl, q⟩
  | _ => trivial
theorem t_cmp {op : CmpOp} {r : R2} {f : D → D → Option D} (ho : OpR X (compareOp op) r) (hr : R2D X.K g W r f) (ha : PED X g W a ta fa) (hb : PED X g W b tb fb) (hm : behindInMarks op b = false) : PTD X g W (.Compare a [op] [b] pos) (tTest (tOp r ta tb)) (dTest (dBin f fa fb)) :=
  ⟨pt_cmpR ho ha.pe hb.pe hm, ev_test (ev_bin hr ha.ev hb.ev)⟩
variable (hu : X.A.units + 100 < cLine)
include hu
theorem d_eq (ha : PED X g W a ta fa) (hb : PED X g W b tb fb) : PED X g W (.Compare a [.Eq] [b] pos) (tOp (rEqD X.K) ta tb) (dBin pyEq fa fb) := d_cmp (op_eqD (by omega)) rd_eq ha hb (nomark _)
theorem d_ne (ha : PED X g W a ta fa) (hb : PED X g W b tb fb) : PED X g W (.Compare a [.NotEq] [b] pos) (tOp (rNeD X.K) ta tb) (dBin pyNe fa fb) := d_cmp (op_neD (by omega)) rd_ne ha hb (nomark _)
theorem t_eq (ha : PED X g W a ta fa) (hb : PED X g W b tb fb) : PTD X g W (.Compare a [.Eq] [b] pos) (tTest (tOp (rEqD X.K) ta tb)) (dTest (dBin pyEq fa fb)) := t_cmp (op_eqD (by omega)) rd_eq ha hb (nomark _)
theorem t_ne (ha : PED X g W a ta fa) (hb : PED X g W b tb fb) : PTD X g W (.Compare a [.NotEq] [b] pos) (tTest (tOp (rNeD X.K) ta tb)) (dTest (dBin pyNe fa fb)) := t_cmp (op_neD (by omega)) rd_ne ha hb (nomark _)
theorem d_in (ha : PED X g W a ta fa) (hb : PED X g W b tb fb) (hm : behindInMarks .In b = false := by rfl) : PED X g W (.Compare a [.In] [b] pos) (tOp (rInA X.K) ta tb) (dBin pyIn fa fb) := d_cmp (op_inA (by omega)) rd_in ha hb hm
theorem d_notIn (ha : PED X g W a ta fa) (hb : PED X g W b tb fb) (hm : behindInMarks .NotIn b = false := by rfl) : PED X g W (.Compare a [.NotIn] [b] pos) (tOp (rNotInA X.K) ta tb) (dBin pyNotIn fa fb) := d_cmp (op_notInA (by omega)) rd_notIn ha hb hm
theorem t_in (ha : PED X g W a ta fa) (hb : PED X g W b tb fb) (hm : behindInMarks .In b = false := by rfl) : PTD X g W (.Compare a [.In] [b] pos) (tTest (tOp (rInA X.K) ta tb)) (dTest (dBin pyIn fa fb)) := t_cmp (op_inA (by omega)) rd_in ha hb hm
theorem t_notIn (ha : PED X g W a ta fa) (hb : PED X g W b tb fb) (hm : behindInMarks .NotIn b = false := by rfl) : PTD X g W (.Compare a [.NotIn] [b] pos) (tTest (tOp (rNotInA X.K) ta tb)) (dTest (dBin pyNotIn fa fb)) := t_cmp (op_notInA (by omega)) rd_notIn ha hb hm
omit hu
theorem d_lt (ha : PED X g W a ta fa) (hb : PED X g W b tb fb) : PED X g W (.Compare a [.Lt] [b] pos) (tOp (rI0 fun i j => .bl (decide (i < j))) ta tb) (dBin pyLt fa fb) := d_cmp op_lt (rd_cmp _) ha hb (nomark _)
theorem d_le (ha : PED X g W a ta fa) (hb : PED X g W b tb fb) : PED X g W (.Compare a [.LtE] [b] pos) (tOp (rI0 fun i j => .bl (decide (i ≤ j))) ta tb) (dBin pyLe fa fb) := d_cmp op_le (rd_cmp _) ha hb (nomark _)
theorem d_gt (ha : PED X g W a ta fa) (hb : PED X g W b tb fb) : PED X g W (.Compare a [.Gt] [b] pos) (tOp (rI0 fun i j => .bl (decide (j < i))) ta tb) (dBin pyGt fa fb) := d_cmp op_gt (rd_cmp _) ha hb (nomark _)
theorem d_ge (ha : PED X g W a ta fa) (hb : PED X g W b tb fb) : PED X g W (.Compare a [.GtE] [b] pos) (tOp (rI0 fun i j => .bl (decide (j ≤ i))) ta tb) (dBin pyGe fa fb) := d_cmp op_ge (rd_cmp _) ha hb (nomark _)
theorem t_lt (ha : PED X g W a ta fa) (hb : PED X g W b tb fb) : PTD X g W (.Compare a [.Lt] [b] pos) (tTest (tOp (rI0 fun i j => .bl (decide (i < j))) ta tb)) (dTest (dBin pyLt fa fb)) := t_cmp op_lt (rd_cmp _) ha hb (nomark _)
theorem t_le (ha : PED X g W a ta fa) (hb : PED X g W b tb fb) : PTD X g W (.Compare a [.LtE] [b] pos) (tTest (tOp (rI0 fun i j => .bl (decide (i ≤ j))) ta tb)) (dTest (dBin pyLe fa fb)) := t_cmp op_le (rd_cmp _) ha hb (nomark _)
theorem t_gt (ha : PED X g W a ta fa) (hb : PED X g W b tb fb) : PTD X g W (.Compare a [.Gt] [b] pos) (tTest (tOp (rI0 fun i j => .bl (decide (j < i))) ta tb)) (dTest (dBin pyGt fa fb)) := t_cmp op_gt (rd_cmp _) ha hb (nomark _)
theorem t_ge (ha : PED X g W a ta fa) (hb : PED X g W b tb fb) : PTD X g W (.Compare a [.GtE] [b] pos) (tTest (tOp (rI0 fun i j => .bl (decide (j ≤ i))) ta tb)) (dTest (dBin pyGe fa fb)) := t_cmp op_ge (rd_cmp _) ha hb (nomark _)
theorem d_is (ha : PED X g W a ta fa) (hb : PED X g W b tb fb) : PED X g W (.Compare a [.Is] [b] pos) (tOp rIs ta tb) (dBin (pyIs false) fa fb) := d_cmp op_isA rd_is ha hb (nomark _)
theorem d_isNot (ha : PED X g W a ta fa) (hb : PED X g W b tb fb) : PED X g W (.Compare a [.IsNot] [b] pos) (tOp rIsNot ta tb) (dBin (pyIs true) fa fb) := d_cmp op_isNotA rd_isNot ha hb (nomark _)
theorem t_is (ha : PED X g W a ta fa) (hb : PED X g W b tb fb) : PTD X g W (.Compare a [.Is] [b] pos) (tTest (tOp rIs ta tb)) (dTest (dBin (pyIs false) fa fb)) := t_cmp op_isA rd_is ha hb (nomark _)
theorem t_isNot (ha : PED X g W a ta fa) (hb : PED X g W b tb fb) : PTD X g W (.Compare a [.IsNot] [b] pos) (tTest (tOp rIsNot ta tb)) (dTest (dBin (pyIs true) fa fb)) := t_cmp op_isNotA rd_isNot ha hb (nomark _)

/-! ### a <= b <= c of numbers -/
def dChain (fa fb fc : DE) : DE := fun sd μ => (fa sd μ).bind fun x μ1 => (fb sd μ1).bind fun y μ2 => (lift (pyLe x y) μ2).bind fun k μ3 => (lift (asB k) μ3).bind fun k μ4 =>
  if k = true then (fc sd μ4).bind fun z μ5 => lift (pyLe y z) μ5 else .ok (.bool false) μ4
theorem ev_chain {K : Frag} (ha : EvD K g W ta fa) (hb : EvD K g W tb fb) (hc : EvD K g W tc fc) : EvD K g W (tChain (rI0 fun i j => .bl (decide (i ≤ j))) (rI0 fun i j => .bl (decide (i ≤ j))) ta tb tc) (dChain fa fb fc) := fun H0 sd μ w σ SS S => by
  refine Out.bind (T1 := fun x H Q => tb σ H fun y H2 => rI0 (fun i j => .bl (decide (i ≤ j))) x y H2 fun z H3 => ∃ k, z = .bl k ∧ (if k = true then tc σ H3 fun w' H4 => rI0 (fun i j => .bl (decide (i ≤ j))) y w' H4 Q else Q (.bl false) H3)) (ha H0 sd μ w σ SS S) fun x μ1 w1 xv l1 S1 rx => ?_
  refine Out.bind (T1 := fun y H2 Q => rI0 (fun i j => .bl (decide (i ≤ j))) xv y H2 fun z H3 => ∃ k, z = .bl k ∧ (if k = true then tc σ H3 fun w' H4 => rI0 (fun i j => .bl (decide (i ≤ j))) y w' H4 Q else Q (.bl false) H3)) (hb H0 sd μ1 w1 σ (SS.le l1) S1) fun y μ2 w2 yv l2 S2 ry => ?_
  refine Out.bind (T1 := fun z H3 Q => ∃ k, z = .bl k ∧ (if k = true then tc σ H3 fun w' H4 => rI0 (fun i j => .bl (decide (i ≤ j))) yv w' H4 Q else Q (.bl false) H3)) (Out.lift fun z hz => rd_cmp _ μ2 w2 σ xv yv x y z S2 (rx.le l2) ry hz) fun z μ3 w3 zv l3 S3 rz => ?_
  cases z with
  | bool k =>
    cases rz
    cases k with
    | true =>
      show Out K g W σ w3 (RelD K) ((fc sd μ3).bind fun z μ5 => lift (pyLe y z) μ5) _
      have z := Out.bind (T1 := fun w' H4 Q => rI0 (fun i j => .bl (decide (i ≤ j))) yv w' H4 Q) (Rel' := RelD K) (k := fun z μ5 => lift (pyLe y z) μ5) (hc H0 sd μ3 w3 σ (SS.le ((l1.trans l2).trans l3)) S3) fun z μ5 w5 zv l5 S5 rz => Out.lift fun u hu => rd_cmp _ μ5 w5 σ yv zv y z u S5 (ry.le (l3.trans l5)) rz hu
      cases e : (fc sd μ3).bind fun z μ5 => lift (pyLe y z) μ5 with
      | ok u μ6 =>
        rw [e] at z
        exact fun Q q => ⟨true, rfl, by rw [if_pos rfl]; exact z Q q⟩
      | exc u μ6 =>
        rw [e] at z
        exact fun Q q => ⟨true, rfl, by rw [if_pos rfl]; exact z Q q⟩
      | bad => trivial
    | false => exact Out.ok S3 (.bl false) fun Q q => ⟨false, rfl, by rw [if_neg Bool.false_ne_true]; exact q⟩
  | _ => trivial
theorem d_chain (ha : PED X g W a ta fa) (hb : PED X g W b tb fb) (hc : PED X g W c tc fc) (hm : lastMarks [.LtE, .LtE] [b, c] = false := by with_unfolding_all rfl) : PED X g W (.Compare a [.LtE, .LtE] [b, c] pos) (tChain (rI0 fun i j => .bl (decide (i ≤ j))) (rI0 fun i j => .bl (decide (i ≤ j))) ta tb tc) (dChain fa fb fc) :=
  ⟨pe_chain op_le op_le ha.pe hb.pe hc.pe hm, ev_chain ha.ev hb.ev hc.ev⟩
theorem t_chain (ha : PED X g W a ta fa) (hb : PED X g W b tb fb) (hc : PED X g W c tc fc) (hm : lastMarks [.LtE, .LtE] [b, c] = false := by with_unfolding_all rfl) : PTD X g W (.Compare a [.LtE, .LtE] [b, c] pos) (tTest (tChain (rI0 fun i j => .bl (decide (i ≤ j))) (rI0 fun i j => .bl (decide (i ≤ j))) ta tb tc)) (dTest (dChain fa fb fc)) :=
  ⟨pt_chain op_le op_le ha.pe hb.pe hc.pe hm, ev_test (ev_chain ha.ev hb.ev hc.ev)⟩

/-! ### tests and bools -/
theorem ev_tB {K : Frag} (h : EvD K g W ta fa) : EvT K g W (tB ta) (dTest fa) := ev_test h
theorem t_val (h : PED X g W a ta fa) (he : ∀ whole, isTrue a X.env whole = (do let v ← whole; standAt a.pos; holding [v] (truthy v)) := by intro _; rfl) : PTD X g W a (tB ta) (dTest fa) := ⟨pt_val h.pe he, ev_tB h.ev⟩
variable {t u : TT} {ft fu : DT} {rest : List Expr}
def dAnd (f h : DT) : DT := fun sd μ => (f sd μ).bind fun b μ1 => if b = true then h sd μ1 else .ok false μ1
def dOr (f h : DT) : DT := fun sd μ => (f sd μ).bind fun b μ1 => if b = true then .ok true μ1 else h sd μ1
def dNot (f : DT) : DT := fun sd μ => (f sd μ).bind fun b μ1 => .ok (!b) μ1
theorem Out.ite {K : Frag} {α β : Type} {σ : L2.St} {w : Wd} {Rel : Wd → β → α → Prop} {b : Bool} {r r' : Res α} {T T' : (β → Hp → Prop) → Prop} (h : b = true → Out K g W σ w Rel r T) (h' : b = false → Out K g W σ w Rel r' T') :
    Out K g W σ w Rel (if b = true then r else r') fun Q => if b = true then T Q else T' Q := by
  cases b with
  | true =>
    rw [if_pos rfl]
    have := h rfl
    simpa using this
  | false =>
    rw [if_neg Bool.false_ne_true]
    have := h' rfl
    simpa using this
theorem ev_and {K : Frag} (h : EvT K g W t ft) (h' : EvT K g W u fu) : EvT K g W (tAnd t u) (dAnd ft fu) := fun H0 sd μ w σ SS S => by
  refine Out.bind (T1 := fun c H1 Q => if c = true then u σ H1 Q else Q false H1) (h H0 sd μ w σ SS S) fun b μ1 w1 x l1 S1 r => ?_
  cases r
  exact Out.ite (fun _ => h' H0 sd μ1 w1 σ (SS.le l1) S1) fun _ => Out.ok S1 rfl fun Q q => q
theorem ev_or {K : Frag} (h : EvT K g W t ft) (h' : EvT K g W u fu) : EvT K g W (tOr t u) (dOr ft fu) := fun H0 sd μ w σ SS S => by
  refine Out.bind (T1 := fun c H1 Q => if c = true then Q true H1 else u σ H1 Q) (h H0 sd μ w σ SS S) fun b μ1 w1 x l1 S1 r => ?_
  cases r
  exact Out.ite (fun _ => Out.ok S1 rfl fun Q q => q) fun _ => h' H0 sd μ1 w1 σ (SS.le l1) S1
theorem ev_not {K : Frag} (h : EvT K g W t ft) : EvT K g W (tNot t) (dNot ft) := fun H0 sd μ w σ SS S => by
  refine Out.bind (T1 := fun c H1 Q => Q (!c) H1) (h H0 sd μ w σ SS S) fun b μ1 w1 x l1 S1 r => ?_
  cases r
  exact Out.ok S1 rfl fun Q q => q
theorem w_and1 (h : PTD X g W a t ft) : PWD X g W (.BoolOp .And [a] pos) t ft := ⟨pw_and1 h.pt, h.ev⟩
theorem w_or1 (h : PTD X g W a t ft) : PWD X g W (.BoolOp .Or [a] pos) t ft := ⟨pw_or1 h.pt, h.ev⟩
theorem w_and (h : PTD X g W a t ft) (h' : PWD X g W (.BoolOp .And (b :: rest) pos) u fu) : PWD X g W (.BoolOp .And (a :: b :: rest) pos) (tAnd t u) (dAnd ft fu) := ⟨pw_and h.pt h'.pw, ev_and h.ev h'.ev⟩
theorem w_or (h : PTD X g W a t ft) (h' : PWD X g W (.BoolOp .Or (b :: rest) pos) u fu) : PWD X g W (.BoolOp .Or (a :: b :: rest) pos) (tOr t u) (dOr ft fu) := ⟨pw_or h.pt h'.pw, ev_or h.ev h'.ev⟩
theorem t_w (h : PWD X g W a t ft) : PTD X g W a t ft := ⟨h.pw.pt, h.ev⟩
theorem t_not (h : PTD X g W a t ft) : PTD X g W (.UnaryOp .Not a pos) (tNot t) (dNot ft) := ⟨pt_not h.pt, ev_not h.ev⟩
/-- as values -/
def dAndV (fa fb : DE) : DE := fun sd μ => (fa sd μ).bind fun d μ1 => (lift (asB d) μ1).bind fun b μ2 => if b = true then fb sd μ2 else .ok (.bool false) μ2
def dOrV (fa fb : DE) : DE := fun sd μ => (fa sd μ).bind fun d μ1 => (lift (asB d) μ1).bind fun b μ2 => if b = true then .ok (.bool true) μ2 else fb sd μ2
def dNotV (fa : DE) : DE := fun sd μ => (fa sd μ).bind fun d μ1 => (lift (asB d) μ1).bind fun b μ2 => .ok (.bool (!b)) μ2
theorem ev_andV {K : Frag} (h : EvD K g W ta fa) (h' : EvD K g W tb fb) : EvD K g W (tAndV ta tb) (dAndV fa fb) := fun H0 sd μ w σ SS S => by
  refine Out.bind (T1 := fun x H1 Q => ∃ c, x = .bl c ∧ if c = true then tb σ H1 Q else Q (.bl false) H1) (h H0 sd μ w σ SS S) fun d μ1 w1 x l1 S1 r => ?_
  cases d with
  | bool b =>
    cases r
    have z := Out.ite (b := b) (T := fun Q => tb σ w1.H Q) (T' := fun Q => Q (.bl false) w1.H) (fun _ => h' H0 sd μ1 w1 σ (SS.le l1) S1) fun _ => Out.ok S1 (.bl false) fun Q q => q
    show Out K g W σ w1 (RelD K) (if b = true then fb sd μ1 else .ok (.bool false) μ1) _
    cases e : (if b = true then fb sd μ1 else .ok (.bool false) μ1) with
    | ok u μ6 => rw [e] at z; exact fun Q q => ⟨b, rfl, z Q q⟩
    | exc u μ6 => rw [e] at z; exact fun Q q => ⟨b, rfl, z Q q⟩
    | bad => trivial
  | _ => trivial
theorem ev_orV {K : Frag} (h : EvD K g W ta fa) (h' : EvD K g W tb fb) : EvD K g W (tOrV ta tb) (dOrV fa fb) := fun H0 sd μ w σ SS S => by
  refine Out.bind (T1 := fun x H1 Q => ∃ c, x = .bl c ∧ if c = true then Q (.bl true) H1 else tb σ H1 Q) (h H0 sd μ w σ SS S) fun d μ1 w1 x l1 S1 r => ?_
  cases d with
  | bool b =>
    cases r
    have z := Out.ite (b := b) (T := fun Q => Q (.bl true) w1.H) (T' := fun Q => tb σ w1.H Q) (fun _ => Out.ok S1 (.bl true) fun Q q => q) fun _ => h' H0 sd μ1 w1 σ (SS.le l1) S1
    show Out K g W σ w1 (RelD K) (if b = true then .ok (.bool true) μ1 else fb sd μ1) _
    cases e : (if b = true then .ok (.bool true) μ1 else fb sd μ1) with
    | ok u μ6 => rw [e] at z; exact fun Q q => ⟨b, rfl, z Q q⟩
    | exc u μ6 => rw [e] at z; exact fun Q q => ⟨b, rfl, z Q q⟩
    | bad => trivial
  | _ => trivial
theorem ev_notV {K : Frag} (h : EvD K g W ta fa) : EvD K g W (tNotV ta) (dNotV fa) := fun H0 sd μ w σ SS S => by
  refine Out.bind (T1 := fun x H1 Q => ∃ c, x = .bl c ∧ Q (V.bl (!c)) H1) (h H0 sd μ w σ SS S) fun d μ1 w1 x l1 S1 r => ?_
  cases d with
  | bool b =>
    cases r
    exact Out.ok S1 (.bl _) fun Q q => ⟨b, rfl, q⟩
  | _ => trivial
theorem d_one {op} (h : PED X g W a ta fa) : PED X g W (.BoolOp op [a] pos) ta fa := ⟨pe_one h.pe, h.ev⟩
theorem d_and (h : PED X g W a ta fa) (h' : PED X g W (.BoolOp .And (b :: rest) pos) tb fb) : PED X g W (.BoolOp .And (a :: b :: rest) pos) (tAndV ta tb) (dAndV fa fb) := ⟨pe_and h.pe h'.pe, ev_andV h.ev h'.ev⟩
theorem d_or (h : PED X g W a ta fa) (h' : PED X g W (.BoolOp .Or (b :: rest) pos) tb fb) : PED X g W (.BoolOp .Or (a :: b :: rest) pos) (tOrV ta tb) (dOrV fa fb) := ⟨pe_or h.pe h'.pe, ev_orV h.ev h'.ev⟩
theorem d_not (h : PED X g W a ta fa) : PED X g W (.UnaryOp .Not a pos) (tNotV ta) (dNotV fa) := ⟨pe_not h.pe, ev_notV h.ev⟩
/-- a if t else b -/
def dIf (ft : DT) (fa fb : DE) : DE := fun sd μ => (ft sd μ).bind fun b μ1 => if b = true then fa sd μ1 else fb sd μ1
theorem ev_if {K : Frag} (h : EvT K g W t ft) (ha : EvD K g W ta fa) (hb : EvD K g W tb fb) : EvD K g W (tIf t ta tb) (dIf ft fa fb) := fun H0 sd μ w σ SS S => by
  refine Out.bind (T1 := fun c H1 Q => if c = true then ta σ H1 Q else tb σ H1 Q) (h H0 sd μ w σ SS S) fun b μ1 w1 x l1 S1 r => ?_
  cases r
  exact Out.ite (fun _ => ha H0 sd μ1 w1 σ (SS.le l1) S1) fun _ => hb H0 sd μ1 w1 σ (SS.le l1) S1
theorem d_if (h : PTD X g W c t ft) (ha : PED X g W a ta fa) (hb : PED X g W b tb fb) : PED X g W (.IfExp c a b pos) (tIf t ta tb) (dIf ft fa fb) := ⟨pe_ifExp h.pt ha.pe hb.pe, ev_if h.ev ha.ev hb.ev⟩
/-- -a -/
def pyNeg : D → Option D
  | .int i => some (.int (-i))
  | _ => none
def dUn (f : D → Option D) (fa : DE) : DE := fun sd μ => (fa sd μ).bind fun d μ1 => lift (f d) μ1
theorem d_neg (h : PED X g W a ta fa) : PED X g W (.UnaryOp .USub a pos) (tUn (rU fun i => .int (-i)) ta) (dUn pyNeg fa) := ⟨pe_un un_neg h.pe, fun H0 sd μ w σ SS S => by
  refine Out.bind (T1 := fun x H1 Q => rU (fun i => .int (-i)) x H1 Q) (h.ev H0 sd μ w σ SS S) fun d μ1 w1 x l1 S1 r => ?_
  cases d with
  | int i =>
    cases r
    exact Out.ok S1 (.int _) fun Q q => ⟨i, rfl, q⟩
  | _ => trivial⟩

/-! ### arguments, displays -/
variable {e : Expr} {es : List Expr} {te : TE} {t' : TA} {fe : DE} {fs : DA}
def aNil : DA := fun _ μ => .ok [] μ
def aCons (f : DE) (h : DA) : DA := fun sd μ => (f sd μ).bind fun d μ1 => (h sd μ1).bind fun ds μ2 => .ok (d :: ds) μ2
theorem ev_nil {K : Frag} : EvA K g W tNil aNil := fun H0 sd μ w σ SS S => Out.ok S .nil fun Q q => q
theorem ev_cons {K : Frag} (h : EvD K g W te fe) (h' : EvA K g W t' fs) : EvA K g W (tCons te t') (aCons fe fs) := fun H0 sd μ w σ SS S => by
  refine Out.bind (T1 := fun x H1 Q => t' σ H1 fun xs H2 => Q (x :: xs) H2) (h H0 sd μ w σ SS S) fun d μ1 w1 x l1 S1 r => ?_
  refine Out.bind (T1 := fun xs H2 Q => Q (x :: xs) H2) (h' H0 sd μ1 w1 σ (SS.le l1) S1) fun ds μ2 w2 xs l2 S2 rs => ?_
  exact Out.ok S2 (.cons (r.le l2) rs) fun Q q => q
theorem a_nil : PAD X g W [] tNil aNil := ⟨pa_nil, ev_nil⟩
theorem a_cons (h : PED X g W e te fe) (h' : PAD X g W es t' fs) (hs : starEach (e :: es) X.env = (false, eval e X.env) :: starEach es X.env := by rfl) : PAD X g W (e :: es) (tCons te t') (aCons fe fs) := ⟨pa_cons h.pe h'.pa hs, ev_cons h.ev h'.ev⟩
theorem RelL.back {K : Frag} {w0 w1 : Wd} (l : Le w0 w1) {w : Wd} {x : V} {ds : List D} (h : RelL K w1 w x ds) : RelL K w0 w x ds := by
  obtain ⟨p, vs, e, h0, r⟩ := h
  exact ⟨p, vs, e, l.mono p h0, r⟩
def dTup (f : DA) : DE := fun sd μ => (f sd μ).bind fun ds μ1 => lift (if ds.length ≤ 100000 then some (.tuple ds) else none) μ1
def dLst (f : DA) : DA := fun sd μ => (f sd μ).bind fun ds μ1 => lift (if ds.length ≤ 100000 then some ds else none) μ1
theorem ev_tup {K : Frag} (h : EvA K g W t' fs) : EvD K g W (tTup t') (dTup fs) := fun H0 sd μ w σ SS S => by
  refine Out.bind (T1 := fun xs H1 Q => xs.length ≤ sizeLine ∧ ∀ p, H1 p = none → Q (V.ref p) (upd H1 p (.tup xs))) (h H0 sd μ w σ SS S) fun ds μ1 w1 xs l1 S1 r => ?_
  split
  · rename_i hl
    exact Out.newT S1 r fun Q q => ⟨sizeL (by rw [r.length]; exact hl), q⟩
  · trivial
theorem ev_lst {K : Frag} (h : EvA K g W t' fs) : EvL K g W (tLst t') (dLst fs) := fun H0 sd μ w σ SS S => by
  refine Out.bind (T1 := fun xs H1 Q => xs.length ≤ sizeLine ∧ ∀ p, H1 p = none → Q (V.ref p) (upd H1 p (.lst xs))) (h H0 sd μ w σ SS S) fun ds μ1 w1 xs l1 S1 r => ?_
  split
  · rename_i hl
    exact (Out.newO S1 r fun Q q => ⟨sizeL (by rw [r.length]; exact hl), q⟩).imp fun _ _ _ _ z => z.back l1
  · trivial
theorem d_tup {x1} (h : PAD X g W es t' fs) : PED X g W (.Tuple es x1 pos) (tTup t') (dTup fs) := ⟨pe_tup h.pa, ev_tup h.ev⟩
theorem l_lst (h : PAD X g W es t' fs) : PLD X g W (.List es pos) (tLst t') (dLst fs) := ⟨pe_lst h.pa, ev_lst h.ev⟩
theorem d_lst (h : PAD X g W es t' fs) : PED X g W (.List es pos) (tLst t') (dShare (dLst fs)) := d_share (l_lst h)
end
end DL

set_option maxHeartbeats 4000000
/-! DLSum: sum and max of a tuple of whole numbers. -/
namespace DL
open PySem PySem.Spec PySem.Calls PyProof.Rows L2
section
variable {prog : Program} {w : World} {A : Around} {E : Value → Shared → Prop} {s : Shared} {l : Addr} {its : List Value} {ns : List Int} {Q : Value → Shared → Prop}
theorem sumT_raw (hh : A.handled = none) (hl : s.heap.IsTuple l its.toArray) (hi : IntsAre its ns)
    (h : ∀ h' tk t', (∀ b o, s.heap.get? b = some o → h'.get? b = some o) → Q (.int ns.sum t') { s with heap := h', toks := tk }) : wpAny (model prog w) A (call (.builtin "sum") [.ref l]) Q E s := by
  obtain ⟨xs, e⟩ := hi.allInts.items
  have hn : numsOf (intItems xs).toList = ns := by rw [← e]; exact hi.numsOf
  rw [nums_intItems] at hn
  rw [e] at hl
  refine PySem.W.ktm_sumG hh hl fun h' tk t' hk => ?_
  have := h h' tk t' hk
  rw [preSum_eq, List.take_of_length_le (by simp), hn]; exact this
theorem maxT_raw (hh : A.handled = none) (hl : s.heap.IsTuple l its.toArray) (hi : IntsAre its ns) (hne : 0 < ns.length)
    (h : ∀ h' tk M t', (∀ b o, s.heap.get? b = some o → h'.get? b = some o) → M ∈ ns → (∀ a, a ∈ ns → a ≤ M) → Q (.int M t') { s with heap := h', toks := tk }) : wpAny (model prog w) A (call (.builtin "max") [.ref l]) Q E s := by
  obtain ⟨xs, e⟩ := hi.allInts.items
  have hn : numsOf (intItems xs).toList = ns := by rw [← e]; exact hi.numsOf
  rw [nums_intItems] at hn
  subst hn
  rw [e] at hl
  have hsz : 0 < xs.size := by simpa using hne
  obtain ⟨o, ho, hc, n, hd⟩ := id hl
  have hneq : l ≠ s.heap.objs.size := Nat.ne_of_lt (Heap.lt_size ho)
  refine call_max_walk (wpAny_pyIter_tuple hl ?_)
  refine ⟨s.heap.objs.size, _, _, _, _, _, _, rfl, Walks.tuple (A := A.in1) hh _ l hneq (intItems xs), ⟨⟨_, Heap.get?_push_size _ rfl, rfl, rfl⟩, hl.at fun o e => Heap.get?_push_of_some _ e⟩, fun b hb => ?_, by simpa [intItems] using hsz, CmpOf.ints_gt (numAt xs) (fun _ _ => intItems_at), fun v h' tk hP hk => ?_⟩
  · rcases List.mem_cons.mp hb with rfl | hb
    · exact Heap.lt_size (Heap.get?_push_size _ rfl)
    · obtain rfl := List.mem_singleton.mp hb
      exact Heap.lt_size (Heap.get?_push_of_some _ ho)
  · have hP' : (intItems xs)[argBest (fun i j => decide (numAt xs i > numAt xs j)) (xs.size - 1)]? = some v := by simpa [intItems] using hP
    obtain ⟨t, rfl⟩ := intItems_at hP'
    obtain ⟨h1, h2⟩ := argBest_gt (numAt xs) (xs.size - 1)
    refine h h' tk _ t (fun b o e => hk b o (fun hb => absurd (Heap.lt_size e) ((List.mem_singleton.mp hb) ▸ Nat.lt_irrefl _)) (Heap.get?_push_of_some _ e)) ?_ fun a ha => ?_
    · rw [numAt_eq]; exact PySem.getD_mem (by rw [List.length_map, Array.length_toList]; omega)
    · obtain ⟨j, hj, rfl⟩ := mem_getD ha
      rw [List.length_map, Array.length_toList] at hj
      rw [← numAt_eq]; exact h2 j (by omega)
end
section
variable {X : Cx}
def rSumT (K : PySem.W.Frag) : List V → Hp → VK → Prop := fun vs H Q => ∃ (a : Addr) (ns : List Int), vs = [V.ref a] ∧ SqT K H a (ns.map V.int) ∧ Q (.int ns.sum) H
def rMaxT (K : PySem.W.Frag) : List V → Hp → VK → Prop := fun vs H Q => ∃ (a : Addr) (ns : List Int), vs = [V.ref a] ∧ SqT K H a (ns.map V.int) ∧ 0 < ns.length ∧ ∀ m, m ∈ ns → (∀ y, y ∈ ns → y ≤ m) → Q (.int m) H
theorem cr_sumT (hc : X.calm = true) : CallR X (.builtin "sum") (rSumT X.K) := by
  intro pins s σ H vs us Q I r h
  obtain ⟨a, ns, rfl, hs, q⟩ := h
  obtain ⟨its, rv, hl, _⟩ := I.tuple hs
  rw [Vals.ref1 r]
  exact sumT_raw (I.ok.hd hc) (show s.heap.IsTuple a its.toArray from hl) rv.ints fun h' tk t' k => ⟨.int ns.sum, H, I.kept k, ⟨t', rfl⟩, q⟩
theorem cr_maxT (hc : X.calm = true) : CallR X (.builtin "max") (rMaxT X.K) := by
  intro pins s σ H vs us Q I r h
  obtain ⟨a, ns, rfl, hs, hne, q⟩ := h
  obtain ⟨its, rv, hl, _⟩ := I.tuple hs
  rw [Vals.ref1 r]
  exact maxT_raw (I.ok.hd hc) (show s.heap.IsTuple a its.toArray from hl) rv.ints hne fun h' tk M t' k h1 h2 => ⟨.int M, H, I.kept k, ⟨t', rfl⟩, q M h1 h2⟩
end
end DL

set_option maxHeartbeats 4000000
/-! DLCalls: subscripts, slices, calls of built-ins. -/
namespace DL
open PySem L2
section
variable {K : Frag} {g : G} {W : WX}
theorem RpA.at_ {as : List Addr} {F : Hp} {ds : List D} {vs : List V} {i : Int} {d : D} (r : RpA K as F vs ds) (h : atI ds i = some d) : ∃ v, atI vs i = some v ∧ Rp K as F v d := by
  unfold atI at h ⊢
  rw [r.length]
  cases e : ixN ds.length i with
  | none => rw [e] at h; cases h
  | some j =>
    rw [e] at h
    exact r.get (show ds[j]? = some d from h)
def pyIx : D → D → Option D
  | .list xs, .int i => atI xs i
  | .tuple xs, .int i => atI xs i
  | .str z, .int i => if z.length ≤ 100000 then (atI z.cps.toList i).map fun c => .str ⟨#[c]⟩ else none
  | .dict [(.bool true, .list xs)], .int i => atI xs i
  | _, _ => none
theorem rd_ix : R2D K g W (rIx K) pyIx := fun μ w σ x y d e z S rx ry hz => by
  unfold pyIx at hz
  split at hz
  · rw [ry.intV]
    obtain ⟨a, xs, rfl, ha, ra⟩ := rx.lstV
    obtain ⟨v, hv, rv⟩ := ra.at_ hz
    exact Out.ok S rv fun Q q => .inl ⟨a, xs, _, v, rfl, rfl, sqL_of (S.sub _ _ ha), hv, q⟩
  · rw [ry.intV]
    obtain ⟨a, xs, rfl, ha, ra⟩ := rx.tupV
    obtain ⟨v, hv, rv⟩ := ra.at_ hz
    exact Out.ok S rv fun Q q => .inr (.inl ⟨a, xs, _, v, rfl, rfl, S.sub.sqT ha, hv, q⟩)
  · split at hz
    · rename_i i hl
      rw [ry.intV, rx.strV]
      cases e : atI _ i with
      | none => rw [e] at hz; cases hz
      | some c =>
        rw [e] at hz
        cases hz
        exact Out.ok S (.str _) fun Q q => .inr (.inr ⟨_, _, c, rfl, rfl, sizeL hl, e, q⟩)
    · cases hz
  · rw [ry.intV]
    obtain ⟨a, xs, rfl, ha, ra⟩ := Rp.scrV rx
    obtain ⟨v, hv, rv⟩ := ra.at_ hz
    exact Out.ok S rv fun Q q => .inl ⟨a, xs, _, v, rfl, rfl, Ex.sqL S.sub ha, hv, q⟩
  · cases hz
end
section
variable {X : Cx} {g : G} {W : WX} {a b c : Expr} {ta tb tc : TE} {fa fb fc : DE} {pos : Pos}
theorem d_ix (ha : PED X g W a ta fa) (hb : PED X g W b tb fb) (hs : PlainIx b := by intro _ _; rfl) : PED X g W (.Subscript a b pos) (tOp (rIx X.K) ta tb) (dBin pyIx fa fb) := ⟨pe_ix ix_seq ha.pe hb.pe hs, ev_bin rd_ix ha.ev hb.ev⟩
/-- x[b], x a name whose list may be the def's own -/
def dIxV (i : Nat) (fb : DE) : DE := fun sd μ => match sd[i]? with
  | some (some (.v d)) => (fb sd μ).bind fun e μ1 => lift (pyIx d e) μ1
  | some (some (.own xs)) => (fb sd μ).bind fun e μ1 => match e with
    | .int j => lift (atI xs j) μ1
    | _ => .bad
  | _ => .bad
theorem d_ixv {i : Nat} {x : Str} {p : Pos} (hb : PED X g W b tb fb) (hN : X.N[i]? = some x := by rfl) (hv : Vis X.env.scope x := by first | exact Or.inl rfl | exact Or.inr (Or.inl rfl) | exact Or.inr (Or.inr rfl)) (hd : (x == ("__debug__" : Str)) = false := by decide)
    (hcd : (x == ("__classdict__" : Str)) = false := by decide) (hs : PlainIx b := by intro _ _; rfl) : PED X g W (.Subscript (.Name x p) b pos) (tOp (rIx X.K) (tVar i) tb) (dIxV i fb) := ⟨pe_ix ix_seq (pe_var hN hv hd hcd) hb.pe hs, fun H0 sd μ w σ SS S => by
  unfold dIxV
  split
  · rename_i d e
    obtain ⟨v, h1, r⟩ := SS.at_ i _ e
    have z := Out.bind (T1 := fun y H2 Q => rIx X.K v y H2 Q) (Rel' := RelD X.K) (k := fun e μ1 => lift (pyIx d e) μ1) (hb.ev H0 sd μ w σ SS S) fun y μ2 w2 yv l2 S2 ry => Out.lift fun u hu => rd_ix μ2 w2 σ v yv d y u S2 (Rp.le l2 r) ry hu
    cases q : (fb sd μ).bind fun e μ1 => lift (pyIx d e) μ1 with
    | ok u μ6 => rw [q] at z; exact fun Q k => ⟨v, h1, z Q k⟩
    | exc u μ6 => rw [q] at z; exact fun Q k => ⟨v, h1, z Q k⟩
    | bad => trivial
  · rename_i xs e
    obtain ⟨v, h1, r⟩ := SS.at_ i _ e
    have z := Out.bind (T1 := fun y H2 Q => rIx X.K v y H2 Q) (Rel' := RelD X.K) (k := fun e μ1 => (match e with
      | .int j => lift (atI xs j) μ1
      | _ => .bad : Res D)) (hb.ev H0 sd μ w σ SS S) fun y μ2 w2 yv l2 S2 ry => by
        cases y with
        | int j =>
          rw [ry.intV]
          refine Out.lift fun u hu => ?_
          obtain ⟨l, vs, rfl, _, _, _, hH, ra⟩ := RpS.le l2 r
          obtain ⟨v', hv', rv'⟩ := ra.at_ hu
          exact Out.ok S2 rv' fun Q q => .inl ⟨l, vs, _, v', rfl, rfl, sqL_of hH, hv', q⟩
        | _ => trivial
    cases q : (fb sd μ).bind fun e μ1 => (match e with
      | .int j => lift (atI xs j) μ1
      | _ => .bad : Res D) with
    | ok u μ6 => rw [q] at z; exact fun Q k => ⟨v, h1, z Q k⟩
    | exc u μ6 => rw [q] at z; exact fun Q k => ⟨v, h1, z Q k⟩
    | bad => trivial
  · trivial⟩

/-! ### slices -/
def asInt : D → Option Int
  | .int i => some i
  | _ => none
abbrev DO := Slots → Mu → Res (Option Int)
def oNone : DO := fun _ μ => .ok none μ
def oSome (f : DE) : DO := fun sd μ => (f sd μ).bind fun d μ1 => (lift (asInt d) μ1).bind fun i μ2 => .ok (some i) μ2
def EvO (K : Frag) (g : G) (W : WX) (to : TO) (f : DO) : Prop := ∀ (H0 : Hp) sd μ w σ, SimS K H0 w sd σ → Sim K g w μ → Out K g W σ w (fun _ x d => x = d) (f sd μ) fun Q => to σ w.H Q
structure POD (X : Cx) (g : G) (W : WX) (e : Option Expr) (to : TO) (f : DO) : Prop where
  po : PO X e to
  ev : EvO X.K g W to f
theorem o_none : POD X g W none tNoPart oNone := ⟨po_none, fun H0 sd μ w σ SS S => Out.ok S rfl fun Q q => q⟩
theorem o_some (h : PED X g W a ta fa) : POD X g W (some a) (tPart ta) (oSome fa) := ⟨po_some h.pe, fun H0 sd μ w σ SS S => by
  refine Out.bind (T1 := fun x H1 Q => ∃ i, x = .int i ∧ Q (some i) H1) (h.ev H0 sd μ w σ SS S) fun d μ1 w1 x l1 S1 r => ?_
  cases d with
  | int i =>
    cases r
    exact Out.ok S1 rfl fun Q q => ⟨i, rfl, q⟩
  | _ => trivial⟩
def cutD (xs : List D) (lo hi : Option Int) : List D := (xs.drop (HT.sIx xs.length 0 lo)).take (HT.sIx xs.length xs.length hi - HT.sIx xs.length 0 lo)
theorem RpA.cut {K : Frag} {as : List Addr} {F : Hp} {ds : List D} {vs : List V} (r : RpA K as F vs ds) (lo hi : Option Int) : RpA K as F (cutV vs lo hi) (cutD ds lo hi) := by
  unfold cutV cutD
  rw [r.length]
  exact (r.drop _).take _
theorem cutD_whole {xs : List D} {lo hi : Option Int} (h : HT.sIx xs.length 0 lo = 0 ∧ HT.sIx xs.length xs.length hi = xs.length) : cutD xs lo hi = xs := by
  unfold cutD
  rw [h.1, h.2, List.drop_zero, Nat.sub_zero, List.take_length]
def pySl : D → Option Int → Option Int → Option D
  | .list xs, lo, hi => some (.list (cutD xs lo hi))
  | .tuple xs, lo, hi => some (.tuple (cutD xs lo hi))
  | _, _, _ => none
def rSlD (K : Frag) : V → Option Int → Option Int → Hp → VK → Prop := fun x lo hi H Q => rSlA K x lo hi H Q ∨ rSlL K x lo hi H Q
def dSl (fa : DE) (fl fh : DO) : DE := fun sd μ => (fa sd μ).bind fun d μ1 => (fl sd μ1).bind fun lo μ2 => (fh sd μ2).bind fun hi μ3 => lift (pySl d lo hi) μ3
variable {lo hi : Option Expr} {tl th : TO} {fl fh : DO}
theorem d_sl {p2 : Pos} (h : PED X g W a ta fa) (hl : POD X g W lo tl fl) (hh : POD X g W hi th fh) : PED X g W (.Subscript a (.Slice lo hi none p2) pos) (tSl (rSlD X.K) ta tl th) (dSl fa fl fh) := ⟨pe_slice (sl_tupA.or sl_list) h.pe hl.po hh.po, fun H0 sd μ w σ SS S => by
  refine Out.bind (T1 := fun x H1 Q => tl σ H1 fun l H2 => th σ H2 fun u H3 => rSlD X.K x l u H3 Q) (h.ev H0 sd μ w σ SS S) fun d μ1 w1 x l1 S1 r => ?_
  refine Out.bind (T1 := fun l H2 Q => th σ H2 fun u H3 => rSlD X.K x l u H3 Q) (hl.ev H0 sd μ1 w1 σ (SS.le l1) S1) fun lo μ2 w2 lo' l2 S2 e2 => ?_
  subst e2
  refine Out.bind (T1 := fun u H3 Q => rSlD X.K x lo' u H3 Q) (hh.ev H0 sd μ2 w2 σ (SS.le (l1.trans l2)) S2) fun hi μ3 w3 hi' l3 S3 e3 => ?_
  subst e3
  have r := r.le (l2.trans l3)
  refine Out.lift fun z hz => ?_
  unfold pySl at hz
  split at hz
  · cases hz
    obtain ⟨a, xs, rfl, ha, ra⟩ := r.lstV
    exact Out.newL S3 (ra.cut lo' hi') fun Q q => .inr ⟨a, xs, rfl, sqL_of (S3.sub _ _ ha), q⟩
  · rename_i ds
    cases hz
    obtain ⟨a, xs, rfl, ha, ra⟩ := r.tupV
    by_cases hw : HT.sIx xs.length 0 lo' = 0 ∧ HT.sIx xs.length xs.length hi' = xs.length
    · rw [cutD_whole (by rw [← ra.length]; exact hw)]
      exact Out.ok S3 (.tup ha ra) fun Q q => .inl ⟨a, xs, rfl, S3.sub.sqT ha, fun _ => q, fun h => absurd hw h⟩
    · exact Out.newT S3 (ra.cut lo' hi') fun Q q => .inl ⟨a, xs, rfl, S3.sub.sqT ha, fun h => absurd h hw, fun _ => q⟩
  · cases hz⟩
/-- xs[::-1] of a list -/
def pyRevL : D → Option D
  | .list xs => some (.list xs.reverse)
  | _ => none
theorem d_revL {k : Nat} {p1 p2 p3 : Pos} (h : PED X g W a ta fa) : PED X g W (.Subscript a (.Slice none none (some (.UnaryOp .USub (.Constant (.int 1) k p1) p2)) p3) pos) (tRevL X.K ta) (dUn pyRevL fa) := ⟨pe_revL h.pe, fun H0 sd μ w σ SS S => by
  refine Out.bind (T1 := fun x H1 Q => ∃ a xs, x = .ref a ∧ SqL X.K H1 a xs ∧ ∀ p, H1 p = none → Q (V.ref p) (upd H1 p (.lst xs.reverse))) (h.ev H0 sd μ w σ SS S) fun d μ1 w1 x l1 S1 r => ?_
  refine Out.lift fun z hz => ?_
  unfold pyRevL at hz
  split at hz
  · cases hz
    obtain ⟨a, xs, rfl, ha, ra⟩ := r.lstV
    exact Out.newL S1 ra.reverse fun Q q => ⟨a, xs, rfl, sqL_of (S1.sub _ _ ha), q⟩
  · cases hz⟩

/-! ### built-ins -/
def CRD (K : Frag) (g : G) (W : WX) (r : List V → Hp → VK → Prop) (f : List D → Mu → Option D) : Prop := ∀ μ w σ xs ds z, Sim K g w μ → RpA K w.as w.F xs ds → f ds μ = some z → Out K g W σ w (RelD K) (.ok z μ) fun Q => r xs w.H Q
def dCB (f : List D → Mu → Option D) (fs : DA) : DE := fun sd μ => (fs sd μ).bind fun ds μ1 => lift (f ds μ1) μ1
variable {x : Str} {e : Expr} {es : List Expr} {t : TA} {fs : DA} {id T : String} {r : List V → Hp → VK → Prop} {f : List D → Mu → Option D} {p : Pos}
theorem ev_cb {K : Frag} (hr : CRD K g W r f) (ha : EvA K g W t fs) : EvD K g W (tCB r t) (dCB f fs) := fun H0 sd μ w σ SS S => by
  refine Out.bind (T1 := fun vs H1 Q => r vs H1 Q) (ha H0 sd μ w σ SS S) fun ds μ1 w1 vs l1 S1 rs => ?_
  exact Out.lift fun z hz => hr μ1 w1 σ vs ds z S1 rs hz
theorem d_callB (hc : CallR X (.builtin id) r) (hr : CRD X.K g W r f) (hg : Gl X x) (hm : X.mg x = none) (hv : bootBuiltins x = some (.builtin id)) (ha : PAD X g W (e :: es) t fs) (hn : x ≠ "__name__" := by decide) (hdb : (x == ("__debug__" : Str)) = false := by decide)
    (he : starEach (e :: es) X.env = (false, eval e X.env) :: starEach es X.env := by rfl) (hpl : (backTo pos (starEach es X.env)).any (·.1) = false := by rfl) : PED X g W (.Call (.Name x p) (e :: es) [] pos) (tCB r t) (dCB f fs) :=
  ⟨pe_callB hc hg hm hv ha.pa hn hdb he hpl, ev_cb hr ha.ev⟩
theorem d_callTy (hc : CallR X (.type T) r) (hr : CRD X.K g W r f) (hg : Gl X x) (hm : X.mg x = none) (hv : bootBuiltins x = some (.type T)) (ha : PAD X g W (e :: es) t fs) (hn : x ≠ "__name__" := by decide) (hdb : (x == ("__debug__" : Str)) = false := by decide)
    (he : starEach (e :: es) X.env = (false, eval e X.env) :: starEach es X.env := by rfl) (hpl : (backTo pos (starEach es X.env)).any (·.1) = false := by rfl) : PED X g W (.Call (.Name x p) (e :: es) [] pos) (tCB r t) (dCB f fs) :=
  ⟨pe_callTy hc hg hm hv ha.pa hn hdb he hpl, ev_cb hr ha.ev⟩
end

/-! ### what they reckon -/
section
variable {K : Frag} {g : G} {W : WX}
theorem RpA.two {as : List Addr} {F : Hp} {vs : List V} {d e : D} (r : RpA K as F vs [d, e]) : ∃ v u, vs = [v, u] ∧ Rp K as F v d ∧ Rp K as F u e := by
  cases r with
  | cons a r =>
    cases r with
    | cons b r =>
      cases r
      exact ⟨_, _, rfl, a, b⟩
theorem RpA.single {as : List Addr} {F : Hp} {vs : List V} {d : D} (r : RpA K as F vs [d]) : ∃ v, vs = [v] ∧ Rp K as F v d := by
  cases r with
  | cons a r =>
    cases r
    exact ⟨_, rfl, a⟩
def asInts : List D → Option (List Int)
  | [] => some []
  | .int i :: r => (asInts r).map (i :: ·)
  | _ :: _ => none
theorem asInts_map : ∀ {ds : List D} {ns : List Int}, asInts ds = some ns → ds = ns.map .int
  | [], ns, h => by
    cases h
    rfl
  | .int i :: r, ns, h => by
    unfold asInts at h
    cases e : asInts r with
    | none => rw [e] at h; cases h
    | some m =>
      rw [e] at h
      cases h
      rw [asInts_map e]
      rfl
@[simp] theorem asInts_of : ∀ ns : List Int, asInts (ns.map .int) = some ns
  | [] => rfl
  | n :: ns => by
    show (asInts (ns.map .int)).map (n :: ·) = some (n :: ns)
    rw [asInts_of ns]
    rfl
def asBls : List D → Option (List Bool)
  | [] => some []
  | .bool i :: r => (asBls r).map (i :: ·)
  | _ :: _ => none
theorem asBls_map : ∀ {ds : List D} {ns : List Bool}, asBls ds = some ns → ds = ns.map .bool
  | [], ns, h => by
    cases h
    rfl
  | .bool i :: r, ns, h => by
    unfold asBls at h
    cases e : asBls r with
    | none => rw [e] at h; cases h
    | some m =>
      rw [e] at h
      cases h
      rw [asBls_map e]
      rfl
@[simp] theorem asBls_of : ∀ ns : List Bool, asBls (ns.map .bool) = some ns
  | [] => rfl
  | n :: ns => by
    show (asBls (ns.map .bool)).map (n :: ·) = some (n :: ns)
    rw [asBls_of ns]
    rfl
/-- len -/
def pyLen : List D → Mu → Option D
  | [.list xs], _ => some (.int xs.length)
  | [.tuple xs], _ => some (.int xs.length)
  | [.str z], _ => if z.length ≤ 100000 then some (.int z.length) else none
  | [.dict [(.bool true, .list xs)]], _ => some (.int xs.length)
  | [.dict [(.none, .int k)]], μ => match μ[k.toNat]? with
    | some (.lst xs) => some (.int xs.length)
    | _ => none
  | _, _ => none
abbrev rLen (K : Frag) : List V → Hp → VK → Prop := fun xs H Q => ∃ x n, xs = [x] ∧ LenV K x H n ∧ Q (.int n) H
theorem rd_len : CRD K g W (rLen K) pyLen := fun μ w σ xs ds z S rs hz => by
  unfold pyLen at hz
  split at hz
  · cases hz
    obtain ⟨v, rfl, r⟩ := rs.single
    obtain ⟨a, xs, rfl, ha, ra⟩ := r.lstV
    rw [← ra.length]
    exact Out.ok S (.int _) fun Q q => ⟨_, _, rfl, .inl ⟨xs, sqL_of (S.sub _ _ ha), rfl⟩, q⟩
  · cases hz
    obtain ⟨v, rfl, r⟩ := rs.single
    obtain ⟨a, xs, rfl, ha, ra⟩ := r.tupV
    rw [← ra.length]
    exact Out.ok S (.int _) fun Q q => ⟨_, _, rfl, .inr ⟨xs, S.sub.sqT ha, rfl⟩, q⟩
  · split at hz
    · rename_i hl
      cases hz
      obtain ⟨v, rfl, r⟩ := rs.single
      rw [r.strV]
      exact Out.ok S (.int _) fun Q q => ⟨_, _, rfl, ⟨sizeL hl, rfl⟩, q⟩
    · cases hz
  · cases hz
    obtain ⟨v, rfl, r⟩ := rs.single
    obtain ⟨a, xs, rfl, ha, ra⟩ := Rp.scrV r
    rw [← ra.length]
    exact Out.ok S (.int _) fun Q q => ⟨_, _, rfl, .inl ⟨xs, Ex.sqL S.sub ha, rfl⟩, q⟩
  · rename_i k
    split at hz
    · rename_i xs' e
      cases hz
      obtain ⟨v, rfl, r⟩ := rs.single
      cases r with
      | @tok a k h =>
        have e' : μ[k]? = some (.lst xs') := e
        obtain ⟨a', h', _, vs, hH, ra⟩ := S.cell k _ e'
        rw [h] at h'
        cases h'
        rw [← ra.length]
        exact Out.ok S (.int _) fun Q q => ⟨_, _, rfl, .inl ⟨vs, sqL_of hH, rfl⟩, q⟩
    · cases hz
  · cases hz
/-- sum, max, min -/
def pySum : List D → Mu → Option D
  | [.list xs], _ => (asInts xs).map fun ns => .int ns.sum
  | [.tuple xs], _ => (asInts xs).map fun ns => .int ns.sum
  | _, _ => none
def rSumA (K : Frag) : List V → Hp → VK → Prop := fun xs H Q => rSum K xs H Q ∨ rSumT K xs H Q
theorem rd_sum : CRD K g W (rSumA K) pySum := fun μ w σ xs ds z S rs hz => by
  unfold pySum at hz
  split at hz
  · rename_i xs
    cases e : asInts xs with
    | none => rw [e] at hz; cases hz
    | some ns =>
      rw [e] at hz
      cases hz
      obtain ⟨v, rfl, r⟩ := rs.single
      obtain ⟨a, xs, rfl, ha, ra⟩ := r.lstV
      rw [asInts_map e] at ra
      exact Out.ok S (.int _) fun Q q => .inl ⟨a, ns, rfl, by rw [← ra.ints]; exact sqL_of (S.sub _ _ ha), q⟩
  · rename_i xs
    cases e : asInts xs with
    | none => rw [e] at hz; cases hz
    | some ns =>
      rw [e] at hz
      cases hz
      obtain ⟨v, rfl, r⟩ := rs.single
      obtain ⟨a, xs, rfl, ha, ra⟩ := r.tupV
      rw [asInts_map e] at ra
      exact Out.ok S (.int _) fun Q q => .inr ⟨a, ns, rfl, by rw [← ra.ints]; exact S.sub.sqT ha, q⟩
  · cases hz
def maxI : List Int → Int
  | [] => 0
  | [x] => x
  | x :: r => max x (maxI r)
def minI : List Int → Int
  | [] => 0
  | [x] => x
  | x :: r => min x (minI r)
theorem maxI_mem : ∀ {ns : List Int}, ns ≠ [] → maxI ns ∈ ns ∧ ∀ y ∈ ns, y ≤ maxI ns
  | [], h => absurd rfl h
  | [x], _ => ⟨by simp [maxI], fun y hy => by simp at hy; simp [maxI, hy]⟩
  | x :: y :: r, _ => by
    obtain ⟨h1, h2⟩ := maxI_mem (ns := y :: r) (by simp)
    show max x (maxI (y :: r)) ∈ x :: y :: r ∧ ∀ z ∈ x :: y :: r, z ≤ max x (maxI (y :: r))
    refine ⟨?_, fun z hz => ?_⟩
    · by_cases h : x ≤ maxI (y :: r)
      · rw [Int.max_eq_right h]; exact List.mem_cons_of_mem _ h1
      · rw [Int.max_eq_left (by omega)]; exact List.mem_cons_self
    · rcases List.mem_cons.mp hz with rfl | hz
      · omega
      · have := h2 z hz
        omega
theorem minI_mem : ∀ {ns : List Int}, ns ≠ [] → minI ns ∈ ns ∧ ∀ y ∈ ns, minI ns ≤ y
  | [], h => absurd rfl h
  | [x], _ => ⟨by simp [minI], fun y hy => by simp at hy; simp [minI, hy]⟩
  | x :: y :: r, _ => by
    obtain ⟨h1, h2⟩ := minI_mem (ns := y :: r) (by simp)
    show min x (minI (y :: r)) ∈ x :: y :: r ∧ ∀ z ∈ x :: y :: r, min x (minI (y :: r)) ≤ z
    refine ⟨?_, fun z hz => ?_⟩
    · by_cases h : x ≤ minI (y :: r)
      · rw [Int.min_eq_left h]; exact List.mem_cons_self
      · rw [Int.min_eq_right (by omega)]; exact List.mem_cons_of_mem _ h1
    · rcases List.mem_cons.mp hz with rfl | hz
      · omega
      · have := h2 z hz
        omega
def pyMax : List D → Mu → Option D
  | [.list xs], _ => (asInts xs).bind fun ns => if ns ≠ [] then some (.int (maxI ns)) else none
  | [.tuple xs], _ => (asInts xs).bind fun ns => if ns ≠ [] then some (.int (maxI ns)) else none
  | [.int i, .int j], _ => some (.int (max i j))
  | _, _ => none
def rMaxA (K : Frag) : List V → Hp → VK → Prop := fun xs H Q => rMax K xs H Q ∨ (rMaxT K xs H Q ∨ ∃ i j, xs = [.int i, .int j] ∧ Q (.int (if j > i then j else i)) H)
theorem lenpos {α : Type} {l : List α} (h : l ≠ []) : 0 < l.length := by
  cases l with
  | nil => exact absurd rfl h
  | cons a b => exact Nat.succ_pos _
theorem rd_max : CRD K g W (rMaxA K) pyMax := fun μ w σ xs ds z S rs hz => by
  unfold pyMax at hz
  split at hz
  · rename_i xs
    cases e : asInts xs with
    | none => rw [e] at hz; cases hz
    | some ns =>
      rw [e] at hz
      have hz : (if ns ≠ [] then some (PyData.int (maxI ns)) else none) = some z := hz
      split at hz
      · rename_i hne
        cases hz
        obtain ⟨v, rfl, r⟩ := rs.single
        obtain ⟨a, xs, rfl, ha, ra⟩ := r.lstV
        rw [asInts_map e] at ra
        obtain ⟨m1, m2⟩ := maxI_mem hne
        exact Out.ok S (.int _) fun Q q => .inl ⟨a, ns, rfl, by rw [← ra.ints]; exact sqL_of (S.sub _ _ ha), lenpos hne, fun m h1 h2 => by
          have : m = maxI ns := Int.le_antisymm (m2 m h1) (h2 _ m1)
          rw [this]; exact q⟩
      · cases hz
  · rename_i xs
    cases e : asInts xs with
    | none => rw [e] at hz; cases hz
    | some ns =>
      rw [e] at hz
      have hz : (if ns ≠ [] then some (PyData.int (maxI ns)) else none) = some z := hz
      split at hz
      · rename_i hne
        cases hz
        obtain ⟨v, rfl, r⟩ := rs.single
        obtain ⟨a, xs, rfl, ha, ra⟩ := r.tupV
        rw [asInts_map e] at ra
        obtain ⟨m1, m2⟩ := maxI_mem hne
        exact Out.ok S (.int _) fun Q q => .inr (.inl ⟨a, ns, rfl, by rw [← ra.ints]; exact S.sub.sqT ha, lenpos hne, fun m h1 h2 => by
          have : m = maxI ns := Int.le_antisymm (m2 m h1) (h2 _ m1)
          rw [this]; exact q⟩)
      · cases hz
  · cases hz
    obtain ⟨v, u, rfl, r1, r2⟩ := rs.two
    rename_i i j
    rw [r1.intV, r2.intV]
    exact Out.ok S (.int _) fun Q q => .inr (.inr ⟨_, _, rfl, by
      have e : (if j > i then j else i) = max i j := by
        by_cases h : j > i
        · rw [if_pos h]; omega
        · rw [if_neg h]; omega
      rw [e]; exact q⟩)
  · cases hz
def pyMin : List D → Mu → Option D
  | [.list xs], _ => (asInts xs).bind fun ns => if ns ≠ [] then some (.int (minI ns)) else none
  | [.int i, .int j], _ => some (.int (min i j))
  | _, _ => none
def rMinA (K : Frag) : List V → Hp → VK → Prop := fun xs H Q => rMin K xs H Q ∨ ∃ i j, xs = [.int i, .int j] ∧ Q (.int (if j < i then j else i)) H
theorem rd_min : CRD K g W (rMinA K) pyMin := fun μ w σ xs ds z S rs hz => by
  unfold pyMin at hz
  split at hz
  · rename_i xs
    cases e : asInts xs with
    | none => rw [e] at hz; cases hz
    | some ns =>
      rw [e] at hz
      have hz : (if ns ≠ [] then some (PyData.int (minI ns)) else none) = some z := hz
      split at hz
      · rename_i hne
        cases hz
        obtain ⟨v, rfl, r⟩ := rs.single
        obtain ⟨a, xs, rfl, ha, ra⟩ := r.lstV
        rw [asInts_map e] at ra
        obtain ⟨m1, m2⟩ := minI_mem hne
        exact Out.ok S (.int _) fun Q q => .inl ⟨a, ns, rfl, by rw [← ra.ints]; exact sqL_of (S.sub _ _ ha), lenpos hne, fun m h1 h2 => by
          have : m = minI ns := Int.le_antisymm (h2 _ m1) (m2 m h1)
          rw [this]; exact q⟩
      · cases hz
  · cases hz
    obtain ⟨v, u, rfl, r1, r2⟩ := rs.two
    rename_i i j
    rw [r1.intV, r2.intV]
    exact Out.ok S (.int _) fun Q q => .inr ⟨_, _, rfl, by
      have e : (if j < i then j else i) = min i j := by
        by_cases h : j < i
        · rw [if_pos h]; omega
        · rw [if_neg h]; omega
      rw [e]; exact q⟩
  · cases hz
/-- all -/
def pyAll : List D → Mu → Option D
  | [.list xs], _ => (asBls xs).map fun bs => .bool (bs.all id)
  | _, _ => none
theorem rd_all : CRD K g W (rAll K) pyAll := fun μ w σ xs ds z S rs hz => by
  unfold pyAll at hz
  split at hz
  · rename_i xs
    cases e : asBls xs with
    | none => rw [e] at hz; cases hz
    | some ns =>
      rw [e] at hz
      cases hz
      obtain ⟨v, rfl, r⟩ := rs.single
      obtain ⟨a, xs, rfl, ha, ra⟩ := r.lstV
      rw [asBls_map e] at ra
      exact Out.ok S (.bl _) fun Q q => ⟨a, ns, rfl, by rw [← ra.bls]; exact sqL_of (S.sub _ _ ha), q⟩
  · cases hz
/-- tuple(xs) -/
def pyTuple : List D → Mu → Option D
  | [.list xs], _ => some (.tuple xs)
  | [.tuple xs], _ => some (.tuple xs)
  | _, _ => none
abbrev rTuple (K : Frag) : List V → Hp → VK → Prop := fun xs H Q => ∃ p ys, xs = [.ref p] ∧ ((SqL K H p ys ∧ ∀ l, H l = none → Q (.ref l) (upd H l (.tup ys))) ∨ (SqT K H p ys ∧ Q (.ref p) H))
theorem rd_tuple : CRD K g W (rTuple K) pyTuple := fun μ w σ xs ds z S rs hz => by
  unfold pyTuple at hz
  split at hz
  · cases hz
    obtain ⟨v, rfl, r⟩ := rs.single
    obtain ⟨a, xs, rfl, ha, ra⟩ := r.lstV
    exact Out.newT S ra fun Q q => ⟨a, xs, rfl, .inl ⟨sqL_of (S.sub _ _ ha), q⟩⟩
  · cases hz
    obtain ⟨v, rfl, r⟩ := rs.single
    obtain ⟨a, xs, rfl, ha, ra⟩ := r.tupV
    exact Out.ok S (.tup ha ra) fun Q q => ⟨a, xs, rfl, .inr ⟨S.sub.sqT ha, q⟩⟩
  · cases hz
end
end DL

set_option maxHeartbeats 4000000
/-! DLSort: sorted of whole numbers and of tuples of them; isinstance; list(..). -/
namespace DL
open PySem PySem.Spec PyProof.Rows L2
section
variable {X : Cx}
/-- sorted(xs), what the items stand for by any relation -/
def rSortD (K : Frag) : List V → Hp → VK → Prop := fun xs H Q => ∃ (a : Addr) (vs : List V) (ds : List D) (Pd : V → D → Prop), xs = [.ref a] ∧ SqL K H a vs ∧ DpAll K H vs ds ∧ Paired Pd vs ds ∧ PySem.W.AllAlike ds ∧ PySem.W.Sortable ds ∧ ds.length ≤ sizeLine ∧
  (∀ d, d ∈ ds → d.depth ≤ 1) ∧ ∀ p out, H p = none → Paired Pd out (ds.mergeSort (PySem.W.dataLe false id)) → Q (.ref p) (upd H p (.lst out))
theorem each_of {Pd : V → D → Prop} : ∀ {vs : List V} {ds : List D} {us : List Value}, Paired Pd vs ds → Vals vs us → PySem.W.EachIs (fun u d => ∃ x, RelV x u ∧ Pd x d) us ds
  | _, _, _, .nil, .nil => .nil
  | _, _, _, .cons h t, .cons r q => .cons ⟨_, r, h⟩ (each_of t q)
theorem of_each {Pd : V → D → Prop} : ∀ {ds : List D} {us : List Value}, PySem.W.EachIs (fun u d => ∃ x, RelV x u ∧ Pd x d) us ds → ∃ vs, Vals vs us ∧ Paired Pd vs ds
  | _, _, .nil => ⟨[], .nil, .nil⟩
  | _, _, .cons ⟨x, r, h⟩ t => by
    obtain ⟨vs, q, z⟩ := of_each t
    exact ⟨x :: vs, .cons r q, .cons h z⟩
theorem each_reads {h : Heap} : ∀ {ds : List D} {us : List Value} {as : List Addr}, ReadsAll h us ds as → PySem.W.EachIs (fun u d => ∃ as, Reads h u (id d) as) us ds
  | [], _, _, r => by cases r; exact .nil
  | d :: ds, _, _, r => by
    cases r with
    | cons h1 h2 => exact .cons ⟨_, h1⟩ (each_reads h2)
theorem cr_sortedD (hu : X.A.units + 100 < cLine) : CallR X (.builtin "sorted") (rSortD X.K) := by
  intro pins s σ H xs us Q I r h
  obtain ⟨a, vs, ds, Pd, rfl, hs, hd, hp, hal, hk, hL, hdep, q⟩ := h
  obtain ⟨its, rv, pl, hz⟩ := I.list hs
  rw [Vals.ref1 r]
  obtain ⟨as, hr⟩ := Dp.readsAll I ds vs its hd rv
  refine PySem.W.sorted_data (enc := id) (R := fun u d => ∃ x, RelV x u ∧ Pd x d) pl.isList (each_of hp rv) (each_reads hr) (by simpa using hal) (by simpa using hk) hL (fun b hb => ?_) fun out ho hout => ?_
  · have := hdep b hb
    show X.A.units + 2 + b.depth < cLine
    omega
  · obtain ⟨vs', q1, q2⟩ := of_each hout
    obtain ⟨e, he⟩ := sortedAll_at s.heap its out.toArray
    have hn : H (s.heap.objs.size + 1) = none := I.hok.fresh (Nat.le_succ _)
    refine ⟨.ref (s.heap.objs.size + 1), upd H (s.heap.objs.size + 1) (.lst vs'), ?_, rfl, q _ vs' hn q2⟩
    refine I.laid (t' := s.toks) (fun b u k => sortedAll_old k) (Nat.le_succ _) ⟨?_, out, e, q1, he⟩
    rw [q1.length, ho]
    exact hL
end

/-! ### what may be sorted -/
def isInt : D → Bool
  | .int _ => true
  | _ => false
def isRow : D → Bool
  | .tuple (x :: r) => isInt x && r.all isInt
  | _ => false
def sortOk (ds : List D) : Bool := ds.all isInt || ds.all isRow
theorem isInt_of {d : D} (h : isInt d = true) : ∃ i, d = .int i := by
  cases d <;> first | exact ⟨_, rfl⟩ | (simp [isInt] at h)
theorem ints_of : ∀ {ds : List D}, ds.all isInt = true → ∃ ns : List Int, ds = ns.map .int
  | [], _ => ⟨[], rfl⟩
  | d :: ds, h => by
    simp only [List.all_cons, Bool.and_eq_true] at h
    obtain ⟨i, rfl⟩ := isInt_of h.1
    obtain ⟨ns, rfl⟩ := ints_of h.2
    exact ⟨i :: ns, rfl⟩
theorem isRow_of {d : D} (h : isRow d = true) : ∃ n, ∃ ns : List Int, d = .tuple ((n :: ns).map .int) := by
  unfold isRow at h
  split at h
  · simp only [Bool.and_eq_true] at h
    obtain ⟨i, rfl⟩ := isInt_of h.1
    obtain ⟨ns, rfl⟩ := ints_of h.2
    exact ⟨i, ns, rfl⟩
  · cases h
theorem plainA_ints : ∀ ns : List Int, plainA (ns.map .int) = true
  | [] => by simp [plainA]
  | n :: ns => by
    show plainA (.int n :: ns.map .int) = true
    rw [plainA, plain, plainA_ints ns]
    rfl
theorem sort_facts {ds : List D} (h : sortOk ds = true) : PySem.W.AllAlike ds ∧ PySem.W.Sortable ds ∧ (∀ d, d ∈ ds → d.depth ≤ 1) ∧ plainA ds = true := by
  unfold sortOk at h
  rcases Bool.or_eq_true_iff.mp h with h | h
  · rw [List.all_eq_true] at h
    refine ⟨fun d hd d' hd' => ?_, .inr fun d hd => ?_, fun d hd => ?_, ?_⟩
    · obtain ⟨i, rfl⟩ := isInt_of (h d hd)
      obtain ⟨j, rfl⟩ := isInt_of (h d' hd')
      simp [PySem.W.alike]
    · obtain ⟨i, rfl⟩ := isInt_of (h d hd)
      exact ⟨by simp, by simp⟩
    · obtain ⟨i, rfl⟩ := isInt_of (h d hd)
      simp [PyData.depth]
    · obtain ⟨ns, rfl⟩ := ints_of (ds := ds) (List.all_eq_true.mpr h)
      exact plainA_ints ns
  · rw [List.all_eq_true] at h
    refine ⟨fun d hd d' hd' => ?_, .inl fun d hd => ?_, fun d hd => ?_, ?_⟩
    · obtain ⟨n, ns, rfl⟩ := isRow_of (h d hd)
      obtain ⟨n', ns', rfl⟩ := isRow_of (h d' hd')
      rw [PySem.W.alike]
      exact PySem.W.alike_ints _ _
    · obtain ⟨n, ns, rfl⟩ := isRow_of (h d hd)
      exact ⟨_, _, rfl⟩
    · obtain ⟨n, ns, rfl⟩ := isRow_of (h d hd)
      rw [PyData.depth, PySem.W.depth_ints]
      exact Nat.le_refl _
    · induction ds with
      | nil => simp [plainA]
      | cons d ds ih =>
        have hd := h d List.mem_cons_self
        obtain ⟨n, ns, rfl⟩ := isRow_of hd
        have h2 : ∀ d ∈ ds, isRow d = true := fun d hd => h d (List.mem_cons_of_mem _ hd)
        rw [plainA, plain, plainA_ints, ih (by rw [List.all_eq_true.mpr h2]; simp) h2]
        rfl
section
variable {K : Frag} {g : G} {W : WX}
theorem RpA.paired {as : List Addr} {F : Hp} : ∀ {ds : List D} {vs : List V}, RpA K as F vs ds → Paired (Rp K as F) vs ds
  | _, _, .nil => .nil
  | _, _, .cons h t => .cons h (RpA.paired t)
theorem RpA.of_paired {as : List Addr} {F : Hp} : ∀ {ds : List D} {vs : List V}, Paired (Rp K as F) vs ds → RpA K as F vs ds
  | _, _, .nil => .nil
  | _, _, .cons h t => .cons h (RpA.of_paired t)
def pySorted : List D → Mu → Option D
  | [.list xs], _ => if sortOk xs = true ∧ xs.length ≤ 100000 then some (.list (xs.mergeSort (PySem.W.dataLe false id))) else none
  | _, _ => none
theorem rd_sorted : CRD K g W (rSortD K) pySorted := fun μ w σ xs ds z S rs hz => by
  unfold pySorted at hz
  split at hz
  · rename_i xs
    split at hz
    · rename_i h
      cases hz
      obtain ⟨v, rfl, r⟩ := rs.single
      obtain ⟨a, ys, rfl, ha, ra⟩ := r.lstV
      obtain ⟨f1, f2, f3, f4⟩ := sort_facts h.1
      refine fun Q q => ⟨a, ys, xs, Rp K w.as w.F, rfl, sqL_of (S.sub _ _ ha), RpA.dp S.sub f4 ra, ra.paired, f1, f2, sizeL h.2, f3, fun p out hp ho => ?_⟩
      have ro := RpA.of_paired ho
      exact q (w.put p (.lst out)) _ (S.putLe hp) (S.put hp) (.lst Wd.put_F (ro.le (S.putLe (o := .lst out) hp)))
    · cases hz
  · cases hz
end

/-! ### isinstance(x, T), T a built-in type -/
section
variable {X : Cx} {g : G} {W : WX} {a : Expr} {ta : TE} {fa : DE} {pos : Pos}
def tyD : D → Option String
  | .none => some "NoneType"
  | .bool _ => some "bool"
  | .int _ => some "int"
  | .str _ => some "str"
  | .list _ => some "list"
  | .tuple _ => some "tuple"
  | .dict _ => none
theorem Rp.tyX {K : Frag} {as : List Addr} {F H : Hp} {d : D} {v : V} {t : String} (e : Ex F H) (r : Rp K as F v d) (h : tyD d = some t) : TyX K H v (.type t) := by
  cases r with
  | non => cases h; exact .base .non
  | bl b => cases h; exact .base (.bl b)
  | int i => cases h; exact .base (.int i)
  | str x => cases h; exact .base (.str x)
  | lst q r => cases h; exact .base (.lst (e _ _ q))
  | tup q r =>
    cases h
    rcases q with (q | ⟨o, q⟩) | ⟨o, its, n, q, c, _⟩
    · exact .base (.tup (e _ _ q))
    · exact .fTuple (e _ _ q)
    · exact .kTuple q c
  | scr q r => cases h
  | tok q => cases h
/-- the answers of isinstance for a type -/
def isiB (T : String) (d : D) : Option D := (tyD d).bind fun t => (kitB t T).map .bool
def pyIsi (T : String) : List D → Mu → Option D
  | [d], _ => isiB T d
  | _, _ => none
def dIsi (T : String) (fa : DE) : DE := fun sd μ => (fa sd μ).bind fun d μ1 => lift (isiB T d) μ1
theorem d_isi {T : String} {p1 p2 : Pos} {x : Str} (ha : PED X g W a ta fa) (hm : X.mg "isinstance" = none) (hm2 : X.mg x = none) (hv : bootBuiltins x = some (.type T)) (hg : Gl X "isinstance" := by rfl) (hg2 : Gl X x := by rfl) (hn : x ≠ "__name__" := by decide) (hd : (x == ("__debug__" : Str)) = false := by decide)
    (hv1 : bootBuiltins "isinstance" = some (.builtin "isinstance") := by decide +kernel) (he : starEach [a, .Name x p2] X.env = (false, eval a X.env) :: starEach [.Name x p2] X.env := by rfl) (hpl : (backTo pos (starEach [.Name x p2] X.env)).any (·.1) = false := by rfl)
    (hs2 : starEach [.Name x p2] X.env = (false, eval (.Name x p2) X.env) :: starEach [] X.env := by rfl) :
    PED X g W (.Call (.Name "isinstance" p1) [a, .Name x p2] [] pos) (tCB (rIsi X.K) (tCons ta (tCons (tC (.ty T)) tNil))) (dIsi T fa) :=
  ⟨pe_callB call_isi hg hm hv1 (pa_cons ha.pe (pa_cons (pe_bltn hg2 hm2 hv rfl hn hd) pa_nil hs2) he) (he := he) (hpl := hpl), fun H0 sd μ w σ SS S => by
  refine Out.bind (T1 := fun x H1 Q => rIsi X.K [x, .ty T] H1 Q) (ha.ev H0 sd μ w σ SS S) fun d μ1 w1 v l1 S1 r => ?_
  refine Out.lift fun z hz => ?_
  unfold isiB at hz
  cases e : tyD d with
  | none => rw [e] at hz; cases hz
  | some t =>
    rw [e] at hz
    have hz : (kitB t T).map PyData.bool = some z := hz
    cases e2 : kitB t T with
    | none => rw [e2] at hz; cases hz
    | some b =>
      rw [e2] at hz
      cases hz
      exact Out.ok S1 (.bl b) fun Q q => ⟨v, .ty T, .type t, .type T, b, rfl, .ty T, r.tyX S1.sub e, kit_ty e2, q⟩⟩

/-! ### list(x), list(range(..)), tuple(range(..)) -/
def asSeq : D → Option (List D)
  | .list xs => some xs
  | .tuple xs => some xs
  | _ => none
def lList (fa : DE) : DA := fun sd μ => (fa sd μ).bind fun d μ1 => lift (asSeq d) μ1
theorem l_list {p : Pos} (ha : PED X g W a ta fa) (hm : X.mg "list" = none) (hg : Gl X "list" := by rfl) (he : starEach [a] X.env = (false, eval a X.env) :: starEach [] X.env := by rfl) (hpl : (backTo pos (starEach [] X.env)).any (·.1) = false := by rfl) :
    PLD X g W (.Call (.Name "list" p) [a] [] pos) (tCB (fun xs H Q => ∃ p ys, xs = [.ref p] ∧ (SqL X.K H p ys ∨ SqT X.K H p ys) ∧ ∀ l, H l = none → Q (.ref l) (upd H l (.lst ys))) (tCons ta tNil)) (lList fa) :=
  ⟨pe_callTy call_list_of hg hm (by decide +kernel) (pa_cons ha.pe pa_nil he) (he := he) (hpl := hpl), fun H0 sd μ w σ SS S => by
  refine Out.bind (T1 := fun x H Q => ∃ p ys, [x] = [.ref p] ∧ (SqL X.K H p ys ∨ SqT X.K H p ys) ∧ ∀ l, H l = none → Q (V.ref l) (upd H l (.lst ys))) (ha.ev H0 sd μ w σ SS S) fun d μ1 w1 v l1 S1 r => ?_
  refine Out.lift fun z hz => ?_
  unfold asSeq at hz
  split at hz
  · cases hz
    obtain ⟨a, xs, rfl, h, ra⟩ := r.lstV
    exact (Out.newO S1 ra fun Q q => ⟨a, xs, rfl, .inl (sqL_of (S1.sub _ _ h)), q⟩).imp fun _ _ _ _ z => z.back l1
  · cases hz
    obtain ⟨a, xs, rfl, h, ra⟩ := r.tupV
    exact (Out.newO S1 ra fun Q q => ⟨a, xs, rfl, .inr (S1.sub.sqT h), q⟩).imp fun _ _ _ _ z => z.back l1
  · cases hz⟩
def rgD (lo hi : Int) : List D := (List.range (hi - lo).toNat).map fun i => .int (lo + (i : Nat))
def rgOk (hi : Int) : Option Int := if 0 ≤ hi ∧ hi ≤ 100000 then some hi else none
theorem rp_rg {K : Frag} {as : List Addr} {F : Hp} (lo hi : Int) : RpA K as F (rgV lo hi) (rgD lo hi) := by
  unfold rgV rgD
  generalize List.range (hi - lo).toNat = l
  induction l with
  | nil => exact .nil
  | cons n l ih => exact .cons (.int _) ih
def lRange (fa : DE) : DA := fun sd μ => (fa sd μ).bind fun d μ1 => (lift ((asInt d).bind rgOk) μ1).bind fun n μ2 => .ok (rgD 0 n) μ2
theorem l_listRg {p p2 pos2 : Pos} (ha : PED X g W a ta fa) (hm : X.mg "list" = none) (hm2 : X.mg "range" = none) (hc : X.calm = true := by rfl) (hg : Gl X "list" := by rfl) (hg2 : Gl X "range" := by rfl) (na : starEach [a] X.env = (false, eval a X.env) :: starEach [] X.env := by rfl)
    (nb : starEach [.Call (.Name "range" p2) [a] [] pos2] X.env = (false, eval (.Call (.Name "range" p2) [a] [] pos2) X.env) :: starEach [] X.env := by rfl) :
    PLD X g W (.Call (.Name "list" p) [.Call (.Name "range" p2) [a] [] pos2] [] pos) (tLstRg (tRg1 ta)) (lRange fa) :=
  ⟨pe_listRg hc hg hm (prg_1 hg2 hm2 ha.pe na) nb, fun H0 sd μ w σ SS S => by
  refine Out.bind (T1 := fun x H1 Q => ∃ n, x = .int n ∧ RgOk 0 n ∧ ∀ q, H1 q = none → Q (V.ref q) (upd H1 q (.lst (rgV 0 n)))) (ha.ev H0 sd μ w σ SS S) fun d μ1 w1 v l1 S1 r => ?_
  cases d with
  | int n =>
    cases r
    show Out _ _ _ _ _ _ ((lift (rgOk n) μ1).bind fun n μ2 => .ok (rgD 0 n) μ2) _
    unfold rgOk
    split
    · rename_i h
      refine (Out.newO S1 (rp_rg 0 n) fun Q q => ⟨n, rfl, RgOk.of_le (by omega) (by omega) (by omega) (by omega), q⟩).imp fun _ _ _ _ z => z.back l1
    · trivial
  | _ => trivial⟩
def dTupRg (fa : DE) : DE := fun sd μ => (fa sd μ).bind fun d μ1 => (lift ((asInt d).bind rgOk) μ1).bind fun n μ2 => .ok (.tuple (rgD 0 n)) μ2
theorem d_tupRg {p p2 pos2 : Pos} (ha : PED X g W a ta fa) (hm : X.mg "tuple" = none) (hm2 : X.mg "range" = none) (hc : X.calm = true := by rfl) (hg : Gl X "tuple" := by rfl) (hg2 : Gl X "range" := by rfl) (na : starEach [a] X.env = (false, eval a X.env) :: starEach [] X.env := by rfl)
    (nb : starEach [.Call (.Name "range" p2) [a] [] pos2] X.env = (false, eval (.Call (.Name "range" p2) [a] [] pos2) X.env) :: starEach [] X.env := by rfl) :
    PED X g W (.Call (.Name "tuple" p) [.Call (.Name "range" p2) [a] [] pos2] [] pos) (tTupRg (tRg1 ta)) (dTupRg fa) :=
  ⟨pe_tupRg hc hg hm (prg_1 hg2 hm2 ha.pe na) nb, fun H0 sd μ w σ SS S => by
  refine Out.bind (T1 := fun x H1 Q => ∃ n, x = .int n ∧ RgOk 0 n ∧ ∀ q, H1 q = none → Q (V.ref q) (upd H1 q (.tup (rgV 0 n)))) (ha.ev H0 sd μ w σ SS S) fun d μ1 w1 v l1 S1 r => ?_
  cases d with
  | int n =>
    cases r
    show Out _ _ _ _ _ _ ((lift (rgOk n) μ1).bind fun n μ2 => .ok (PyData.tuple (rgD 0 n)) μ2) _
    unfold rgOk
    split
    · rename_i h
      exact Out.newT S1 (rp_rg 0 n) fun Q q => ⟨n, rfl, RgOk.of_le (by omega) (by omega) (by omega) (by omega), q⟩
    · trivial
  | _ => trivial⟩
end
end DL

set_option maxHeartbeats 4000000
/-! DLEnum: enumerate of a tuple; zip of two tuples and a list. -/
namespace DL
open PySem PySem.Spec PyProof.Rows L2
/-! ### enumerate(t) -/
theorem enum_new_tup (l : Addr) (items : Array Value) (n : Nat) (dct : Option Addr) (sl : Array (Option Value)) :
    Meets (Builtin.«enumerate.__new__» ⟨[.type "enumerate", .ref l], []⟩) (fun _ R s => s.heap.get? l = some { cls := .type "tuple", dict := dct, data := .seq items n, slots := sl } ∧
      R (.ok (.ret (.ref (s.heap.push { cls := .type "tuple_iterator", data := .fields #[.ref l, .int 0 0] }).objs.size)))
        { s with heap := (s.heap.push { cls := .type "tuple_iterator", data := .fields #[.ref l, .int 0 0] }).push { cls := .type "enumerate", data := .fields #[.none, .bool false, .ref s.heap.objs.size, rawInt 0, .none, .none] } }) :=
  .of_wp fun prog w A R s h => by
    obtain ⟨hp, g, d, tk, os⟩ := s
    obtain ⟨hl, h⟩ := h
    have hsub := sub_enumerate
    have hL : Heap.IsTuple (Shared.heap ⟨hp, g, d, tk, os⟩) l items := ⟨_, hl, rfl, n, rfl⟩
    wp_walk using AutoSeq1.wpAny_loadPart' hl
    refine wpAny_stack_any fun st => wpAny_pure ?_
    split
    · rename_i c _ _ _ _ _
      cases (c == Value.type "enumerate") <;> (wp_walk using AutoSeq1.wpAny_loadPart' hl, wpAny_pyIter_tuple hL; exact ⟨_, rfl, h⟩)
    · wp_walk using AutoSeq1.wpAny_loadPart' hl, wpAny_pyIter_tuple hL
      exact ⟨_, rfl, h⟩
theorem call_enum_tup {prog : Program} {w : World} {A : Around} {E : Value → Shared → Prop} {s : Shared} {l : Addr} {items : Array Value} {Q : Value → Shared → Prop} (hL : s.heap.IsTuple l items)
    (h : ∀ h', IsEnum h' (s.heap.objs.size + 1) s.heap.objs.size 0 .none → h'.IsTupleIter s.heap.objs.size l 0 → (∀ b o, s.heap.get? b = some o → h'.get? b = some o) → Q (.ref (s.heap.objs.size + 1)) { s with heap := h' }) :
    wpAny (model prog w) A (call (.type "enumerate") [.ref l]) Q E s := by
  obtain ⟨⟨c, dct, dt, sl⟩, hl, hc, n, hd⟩ := hL
  simp only at hc hd
  subst hc hd
  refine callType_new F.called_enumerate (by decide) (F.typeCall_enumerate_1 _) (F.newCall_enumerate_1 _) (fun obj => F.args_object_init_2 obj _) F.entry_enumerate_new (enum_new_tup l items n dct sl) ⟨hl, ?_⟩
  have hz : (s.heap.push { cls := .type "tuple_iterator", data := .fields #[.ref l, .int 0 0] }).objs.size = s.heap.objs.size + 1 := Heap.size_push ..
  show _ ∧ _
  rw [hz]
  have he := Heap.get?_push_size (s.heap.push { cls := .type "tuple_iterator", data := .fields #[.ref l, .int 0 0] }) (o := { cls := .type "enumerate", data := .fields #[.none, .bool false, .ref s.heap.objs.size, rawInt 0, .none, .none] }) rfl
  rw [hz] at he
  exact ⟨⟨_, he, rfl⟩, h _ he ⟨_, Heap.get?_push_of_some _ (Heap.get?_push_size _ rfl), rfl, rfl⟩ fun b o x => Heap.get?_push_of_some _ (Heap.get?_push_of_some _ x)⟩

/-- the tuple at a, each item in a new pair with its place -/
def Iet (K : PySem.W.Frag) (a : Addr) : It :=
  ⟨fun i H => ∃ (xs : List V) (x : V), SqT K H a xs ∧ xs[i]? = some x, fun i H v H' => ∃ T x, v = .ref T ∧ H T = none ∧ H' = upd H T (.tup [.int (i : Nat), x]) ∧ ∀ xs, SqT K H a xs → xs[i]? = some x, fun i H => ∃ xs : List V, SqT K H a xs ∧ xs.length = i⟩
theorem turn_iet {P : Program} {w : World} {K : PySem.W.Frag} {elts : List Expr} {kk : Nat} {tpos : Pos} (a e it : Addr) (hei : e ≠ it) (hea : e ≠ a) (hia : a ≠ it) :
    Turn P w K (.Tuple elts kk tpos) (Iet K a) [e, it] e (fun i h => (∃ old, IsEnum h e it (0 + (i : Int)) old) ∧ h.IsTupleIter it a i) where
  mem := by simp
  obj := fun i h st b hb => by
    obtain ⟨⟨old, he⟩, o, ho, hc, hd⟩ := st
    rcases List.mem_cons.mp hb with rfl | hb
    · exact ⟨_, he, fun v q => nomatch q⟩
    · obtain rfl := List.mem_singleton.mp hb
      exact ⟨o, ho, fun v q => by rw [hd] at q; cases q⟩
  keep := fun i h h' st k => let ⟨⟨old, he⟩, hi⟩ := st; ⟨⟨old, k e (by simp) _ he⟩, hi.at fun o q => k it (by simp) o q⟩
  item := by
    intro X hP hw hK hc i pins s σ H E I hf st hg
    subst hP hw hK
    obtain ⟨hen, hit⟩ := st
    obtain ⟨xs, x, hq, hx⟩ := hg
    obtain ⟨its, rv, p, hz⟩ := I.tuple hq
    have hi : i < its.toArray.size := by rw [List.size_toArray, ← rv.length]; exact (List.getElem?_eq_some_iff.mp hx).1
    have G := GoesN.enumFrom (prog := X.prog) (w := X.w) (A := X.A) (elts := elts) (x1 := kk) (pos := tpos) 0 (Draws.tuple (A := X.A.in1) (I.ok.hd hc) it a hia its.toArray) e hei (by simp [hei, hea]) (by simp)
    refine wpAny_mono (G.goes i s (fun u s2 => ∃ x' H', Inv X pins σ H' s2 ∧ RelV x' u ∧ (Iet X.K a).yld i H x' H' ∧ ((∃ old, IsEnum s2.heap e it (0 + ((i + 1 : Nat) : Int)) old) ∧ s2.heap.IsTupleIter it a (i + 1)) ∧ ∀ b ∈ [e, it], H' b = none) E hi ⟨hen, hit, p⟩ fun v h' tk hY st' hk htk => ?_) (fun r s1 h1 => ?_) fun _ _ z => z
    · obtain ⟨T, t, u, rfl, hT, hu, oT, hoT, hcT, nT, hdT⟩ := hY
      obtain ⟨hen', hit', _⟩ := st'
      obtain ⟨y, hy, ry⟩ : ∃ y, xs[i]? = some y ∧ RelV y u := ⟨x, hx, by
        obtain ⟨u', hu', ru'⟩ := rv.get hx
        have : its[i]? = some u := by simpa using hu
        rw [this] at hu'
        cases hu'
        exact ru'⟩
      have hHT : H T = none := I.hok.fresh hT
      have new : ObjOk X.prog X.w (upd H T (.tup [.int (i : Nat), y])) h' T (.tup [.int (i : Nat), y]) :=
        ⟨by show 2 ≤ sizeLine; decide, [.int (0 + (i : Int)) t, u], .cons ⟨t, by rw [Int.zero_add]⟩ (.cons ry .nil), ⟨oT, hoT, hcT, nT, hdT⟩⟩
      refine ⟨.ref T, _, I.turnedNew (ch := [e, it]) (fun b o hb q => hk b o hb q) hf hT new, rfl, ⟨T, y, rfl, hHT, rfl, fun ys hys => by rw [I.tuple_inj hys hq]; exact hy⟩, ⟨hen', hit'⟩, fun b hb => ?_⟩
      have hb' : b < s.heap.objs.size := by
        obtain ⟨old, he⟩ := hen
        obtain ⟨o, ho, _⟩ := hit
        rcases List.mem_cons.mp hb with rfl | hb
        · exact Heap.lt_size he
        · obtain rfl := List.mem_singleton.mp hb
          exact Heap.lt_size ho
      rw [upd_ne (Nat.ne_of_lt (Nat.lt_of_lt_of_le hb' hT))]
      exact (hf b hb).1
    · obtain ⟨v, hr, hv⟩ := h1
      exact ⟨v, hr, hv⟩
  done := by
    intro X hP hw hK hc i pins s σ H E I hf st hg
    subst hP hw hK
    obtain ⟨hen, hit⟩ := st
    obtain ⟨xs, hq, hx⟩ := hg
    obtain ⟨its, rv, p, hz⟩ := I.tuple hq
    have hi : its.toArray.size = i := by rw [List.size_toArray, ← rv.length]; exact hx
    have G := GoesN.enumFrom (prog := X.prog) (w := X.w) (A := X.A) (elts := elts) (x1 := kk) (pos := tpos) 0 (Draws.tuple (A := X.A.in1) (I.ok.hd hc) it a hia its.toArray) e hei (by simp [hei, hea]) (by simp)
    rw [hi] at G
    exact G.stops s (fun s1 => Inv X pins σ H s1) E ⟨hen, hit, p⟩ fun h' tk hk _ => I.turnedL (ch := [e, it]) (fun b o hb q => hk b o hb q) hf
  self := fun A i s Q E st h => let ⟨⟨_, he⟩, _⟩ := st; wpAny_pyIter_enum he h
def iEnumT (K : PySem.W.Frag) (ta : TA) : TI := fun σ H R => ta σ H fun vs H1 => ∃ a xs, vs = [.ref a] ∧ ((SqL K H1 a xs ∧ R (Ite K a) H1) ∨ (SqT K H1 a xs ∧ R (Iet K a) H1))
theorem pi_enumT {X : Cx} {e : Expr} {ta : TA} {p pos tpos : Pos} {elts : List Expr} {kk : Nat} (hg : Gl X "enumerate") (hm : X.mg "enumerate" = none) (ha : PA X [e] ta) (hs : starEach [e] X.env = [(false, eval e X.env)] := by rfl) :
    PI X (.Tuple elts kk tpos) (.Call (.Name "enumerate" p) [e] [] pos) (iEnumT X.K ta) := by
  refine ⟨fun pins s σ H R I h => ?_⟩
  refine Call_ (ld_blt I hg hm boot_enumerate (PyProof.Rows.callWith_type1 (thn (ha.run pos pins s σ H _ I h) fun us s1 ⟨vs, H1, I1, r1, q1⟩ => ?_) hs rfl))
  obtain ⟨a, xs, ex, q1⟩ := q1
  subst ex
  obtain ⟨u, rfl, ru⟩ := vals1 r1
  obtain rfl : u = .ref a := ru
  have fr : ∀ b ∈ [s1.heap.objs.size + 1, s1.heap.objs.size], FpOk X pins H1 b := fun b hb => by
    have hle : s1.heap.objs.size ≤ b := by
      rcases List.mem_cons.mp hb with rfl | hb
      · exact Nat.le_succ _
      · obtain rfl := List.mem_singleton.mp hb
        exact Nat.le_refl _
    exact I1.fpOk hle (I1.hok.fresh hle)
  rcases q1 with ⟨hq, q⟩ | ⟨hq, q⟩
  · obtain ⟨its, rv, p', hz⟩ := I1.list hq
    refine call_enumerate_list p'.isList fun h' he hit hsz hk => wpAny_pyIter_enum he ?_
    exact ⟨s1.heap.objs.size + 1, [s1.heap.objs.size + 1, s1.heap.objs.size], _, _, H1, rfl, I1.kept (t' := s1.toks) hk, turn_enum a (s1.heap.objs.size + 1) s1.heap.objs.size, ⟨⟨.none, he⟩, hit, Nat.succ_ne_self _⟩, fr, q⟩
  · obtain ⟨its, rv, p', hz⟩ := I1.tuple hq
    have hal : a < s1.heap.objs.size := let ⟨_, ho, _⟩ := p'; Heap.lt_size ho
    refine call_enum_tup (show s1.heap.IsTuple a its.toArray from p') fun h' he hit hk => wpAny_pyIter_enum he ?_
    exact ⟨s1.heap.objs.size + 1, [s1.heap.objs.size + 1, s1.heap.objs.size], _, _, H1, rfl, I1.kept (t' := s1.toks) hk, turn_iet a (s1.heap.objs.size + 1) s1.heap.objs.size (Nat.succ_ne_self _) (Nat.ne_of_gt (Nat.lt_succ_of_lt hal)) (Nat.ne_of_lt hal), ⟨⟨.none, by simpa using he⟩, hit⟩, fr, q⟩

/-! ### zip(t, u, xs) -/
def Iz3 (K : PySem.W.Frag) (a b c : Addr) : It :=
  ⟨fun i H => ∃ (xs ys zs : List V) (x y z : V), SqT K H a xs ∧ SqT K H b ys ∧ SqL K H c zs ∧ xs[i]? = some x ∧ ys[i]? = some y ∧ zs[i]? = some z,
    fun i H v H' => ∃ T x y z, v = .ref T ∧ H T = none ∧ H' = upd H T (.tup [x, y, z]) ∧ (∀ xs, SqT K H a xs → xs[i]? = some x) ∧ (∀ ys, SqT K H b ys → ys[i]? = some y) ∧ ∀ zs, SqL K H c zs → zs[i]? = some z,
    fun i H => ∃ xs ys zs : List V, SqT K H a xs ∧ SqT K H b ys ∧ SqL K H c zs ∧ min (min xs.length ys.length) zs.length = i⟩
theorem turn_iz3 {P : Program} {w : World} {K : PySem.W.Frag} {elts : List Expr} {kk : Nat} {tpos : Pos} (a b c z TI TO i1 i2 i3 : Addr) (S : ZipSep3 z TI TO i1 i2 i3 [i1, a] [i2, b] [i3, c]) (h1 : a ≠ i1) (h2 : b ≠ i2) (h3 : c ≠ i3) :
    Turn P w K (.Tuple elts kk tpos) (Iz3 K a b c) [z, TI, TO, i1, i2, i3] z
      (fun i h => IsZip h z TI TO .none ∧ IsTupOf3 h TI (.ref i1) (.ref i2) (.ref i3) ∧ (∃ a1 a2 a3, IsTupOf3 h TO a1 a2 a3) ∧ h.IsTupleIter i1 a i ∧ h.IsTupleIter i2 b i ∧ h.IsListIter i3 c i) where
  mem := by simp
  obj := fun i h st d hd => by
    obtain ⟨hz, hTI, ⟨_, _, _, hTO⟩, ⟨o1, e1, _, d1⟩, ⟨o2, e2, _, d2⟩, ⟨o3, e3, _, d3⟩⟩ := st
    simp only [List.mem_cons, List.not_mem_nil, or_false] at hd
    rcases hd with rfl | rfl | rfl | rfl | rfl | rfl
    · exact ⟨_, hz, fun v q => nomatch q⟩
    · exact ⟨_, hTI, fun v q => nomatch q⟩
    · exact ⟨_, hTO, fun v q => nomatch q⟩
    · exact ⟨o1, e1, fun v q => by rw [d1] at q; cases q⟩
    · exact ⟨o2, e2, fun v q => by rw [d2] at q; cases q⟩
    · exact ⟨o3, e3, fun v q => by rw [d3] at q; cases q⟩
  keep := fun i h h' st k => by
    obtain ⟨hz, hTI, ⟨x, y, u, hTO⟩, s1, s2, s3⟩ := st
    exact ⟨k z (by simp) _ hz, k TI (by simp) _ hTI, ⟨x, y, u, k TO (by simp) _ hTO⟩, s1.at fun o q => k i1 (by simp) o q, s2.at fun o q => k i2 (by simp) o q, s3.at fun o q => k i3 (by simp) o q⟩
  item := by
    intro X hP hw hK hc i pins s σ H E I hf st hg
    subst hP hw hK
    obtain ⟨hz, hTI, hTO, s1, s2, s3⟩ := id st
    obtain ⟨xs, ys, zs, x, y, u, q1, q2, q3, hx, hy, hu⟩ := hg
    obtain ⟨its1, rv1, p1, _⟩ := I.tuple q1
    obtain ⟨its2, rv2, p2, _⟩ := I.tuple q2
    obtain ⟨its3, rv3, p3, _⟩ := I.list q3
    have l1 : i < its1.toArray.size := by rw [List.size_toArray, ← rv1.length]; exact (List.getElem?_eq_some_iff.mp hx).1
    have l2 : i < its2.toArray.size := by rw [List.size_toArray, ← rv2.length]; exact (List.getElem?_eq_some_iff.mp hy).1
    have l3 : i < its3.toArray.size := by rw [List.size_toArray, ← rv3.length]; exact (List.getElem?_eq_some_iff.mp hu).1
    have hh := I.ok.hd hc
    have G := GoesN.zip3 (prog := X.prog) (w := X.w) (A := X.A) (elts := elts) (x1 := kk) (pos := tpos) S (Draws.tuple (A := X.A.in1) hh i1 a h1 its1.toArray) (Draws.tuple (A := X.A.in1) hh i2 b h2 its2.toArray) (Draws.list (A := X.A.in1) hh i3 c h3 its3.toArray)
    refine wpAny_mono (G.goes i s (fun v s2 => ∃ x' H', Inv X pins σ H' s2 ∧ RelV x' v ∧ (Iz3 X.K a b c).yld i H x' H' ∧ (IsZip s2.heap z TI TO .none ∧ IsTupOf3 s2.heap TI (.ref i1) (.ref i2) (.ref i3) ∧ (∃ a1 a2 a3, IsTupOf3 s2.heap TO a1 a2 a3) ∧ s2.heap.IsTupleIter i1 a (i + 1) ∧ s2.heap.IsTupleIter i2 b (i + 1) ∧ s2.heap.IsListIter i3 c (i + 1)) ∧ ∀ d ∈ [z, TI, TO, i1, i2, i3], H' d = none) E
      (by omega) ⟨hz, hTI, hTO, ⟨s1, p1⟩, ⟨s2, p2⟩, ⟨s3, p3.isList⟩⟩ fun v h' tk hY st' hk htk => ?_) (fun r s1 h1 => ?_) fun _ _ z => z
    · obtain ⟨T, v1, v2, v3, rfl, hT, hv1, hv2, hv3, oT, hoT, hcT, nT, hdT⟩ := hY
      obtain ⟨z', TI', TO', ⟨s1', _⟩, ⟨s2', _⟩, ⟨s3', _⟩⟩ := st'
      have g1 : RelV x v1 := by
        obtain ⟨u', hu', ru'⟩ := rv1.get hx
        have : its1[i]? = some v1 := by simpa using hv1
        rw [this] at hu'; cases hu'; exact ru'
      have g2 : RelV y v2 := by
        obtain ⟨u', hu', ru'⟩ := rv2.get hy
        have : its2[i]? = some v2 := by simpa using hv2
        rw [this] at hu'; cases hu'; exact ru'
      have g3 : RelV u v3 := by
        obtain ⟨u', hu', ru'⟩ := rv3.get hu
        have : its3[i]? = some v3 := by simpa using hv3
        rw [this] at hu'; cases hu'; exact ru'
      have new : ObjOk X.prog X.w (upd H T (.tup [x, y, u])) h' T (.tup [x, y, u]) :=
        ⟨by show 3 ≤ sizeLine; decide, [v1, v2, v3], .cons g1 (.cons g2 (.cons g3 .nil)), ⟨oT, hoT, hcT, nT, hdT⟩⟩
      refine ⟨.ref T, _, I.turnedNew (ch := [z, TI, TO, i1, i2, i3]) (fun d o hd q => hk d o (fun hm => hd (by
        simp only [List.mem_cons, List.not_mem_nil, or_false] at hm ⊢
        rcases hm with r | r | r | r | r <;> simp [r])) q) hf hT new, rfl, ⟨T, x, y, u, rfl, I.hok.fresh hT, rfl, fun l hl => by rw [I.tuple_inj hl q1]; exact hx, fun l hl => by rw [I.tuple_inj hl q2]; exact hy, fun l hl => by rw [I.list_inj hl q3]; exact hu⟩,
        ⟨z', TI', TO', s1', s2', s3'⟩, fun d hd => ?_⟩
      have hlt : d < s.heap.objs.size := by
        obtain ⟨_, _, _, hTO⟩ := hTO
        obtain ⟨_, e1, _⟩ := s1
        obtain ⟨_, e2, _⟩ := s2
        obtain ⟨_, e3, _⟩ := s3
        have hd' := hd
        simp only [List.mem_cons, List.not_mem_nil, or_false] at hd'
        rcases hd' with rfl | rfl | rfl | rfl | rfl | rfl
        · exact Heap.lt_size hz
        · exact Heap.lt_size hTI
        · exact Heap.lt_size hTO
        · exact Heap.lt_size e1
        · exact Heap.lt_size e2
        · exact Heap.lt_size e3
      rw [upd_ne (Nat.ne_of_lt (Nat.lt_of_lt_of_le hlt hT))]
      exact (hf d hd).1
    · obtain ⟨v, hr, hv⟩ := h1
      exact ⟨v, hr, hv⟩
  done := by
    intro X hP hw hK hc i pins s σ H E I hf st hg
    subst hP hw hK
    obtain ⟨hz, hTI, hTO, s1, s2, s3⟩ := id st
    obtain ⟨xs, ys, zs, q1, q2, q3, hn⟩ := hg
    obtain ⟨its1, rv1, p1, _⟩ := I.tuple q1
    obtain ⟨its2, rv2, p2, _⟩ := I.tuple q2
    obtain ⟨its3, rv3, p3, _⟩ := I.list q3
    have hh := I.ok.hd hc
    have G := GoesN.zip3 (prog := X.prog) (w := X.w) (A := X.A) (elts := elts) (x1 := kk) (pos := tpos) S (Draws.tuple (A := X.A.in1) hh i1 a h1 its1.toArray) (Draws.tuple (A := X.A.in1) hh i2 b h2 its2.toArray) (Draws.list (A := X.A.in1) hh i3 c h3 its3.toArray)
    have e : min (min its1.toArray.size its2.toArray.size) its3.toArray.size = i := by
      rw [List.size_toArray, List.size_toArray, List.size_toArray, ← rv1.length, ← rv2.length, ← rv3.length]; exact hn
    rw [e] at G
    exact G.stops s (fun s1 => Inv X pins σ H s1) E ⟨hz, hTI, hTO, ⟨s1, p1⟩, ⟨s2, p2⟩, ⟨s3, p3.isList⟩⟩ fun h' tk hk _ => I.turnedL (ch := [z, TI, TO, i1, i2, i3]) (fun d o hd q => hk d o (fun hm => hd (by
        simp only [List.mem_cons, List.not_mem_nil, or_false] at hm ⊢
        rcases hm with r | r | r | r | r <;> simp [r])) q) hf
  self := fun A i s Q E st h => wpAny_pyIter_zip st.1 h
def iZip3 (K : PySem.W.Frag) (ta : TA) : TI := fun σ H R => ta σ H fun vs H1 => ∃ a b c xs ys zs, vs = [.ref a, .ref b, .ref c] ∧ SqT K H1 a xs ∧ SqT K H1 b ys ∧ SqL K H1 c zs ∧ R (Iz3 K a b c) H1
theorem vals3 {x y z : V} {us : List Value} (r : Vals [x, y, z] us) : ∃ u v w', us = [u, v, w'] ∧ RelV x u ∧ RelV y v ∧ RelV z w' := by
  cases r with
  | cons r1 r2 =>
    obtain ⟨u, v, rfl, a, b⟩ := vals2 r2
    exact ⟨_, u, v, rfl, r1, a, b⟩
theorem pi_zip3 {X : Cx} {e e2 e3 : Expr} {ta : TA} {p pos tpos : Pos} {elts : List Expr} {kk : Nat} (hg : Gl X "zip") (hm : X.mg "zip" = none) (ha : PA X [e, e2, e3] ta)
    (hs : starEach [e, e2, e3] X.env = (false, eval e X.env) :: starEach [e2, e3] X.env := by rfl) (hpl : (backTo pos (starEach [e2, e3] X.env)).any (·.1) = false := by rfl) :
    PI X (.Tuple elts kk tpos) (.Call (.Name "zip" p) [e, e2, e3] [] pos) (iZip3 X.K ta) := by
  refine ⟨fun pins s σ H R I h => ?_⟩
  refine Call_ (ld_blt I hg hm PyProof.Rows.boot_zip (PyProof.Rows.callWith_type1 (thn (ha.run pos pins s σ H _ I h) fun us s1 ⟨vs, H1, I1, r1, q1⟩ => ?_) hs hpl))
  obtain ⟨a, b, c, xs, ys, zs, ex, g1, g2, g3, q⟩ := q1
  subst ex
  obtain ⟨u1, u2, u3, rfl, x1, x2, x3⟩ := vals3 r1
  obtain rfl : u1 = .ref a := x1
  obtain rfl : u2 = .ref b := x2
  obtain rfl : u3 = .ref c := x3
  obtain ⟨its1, rv1, p1, _⟩ := I1.tuple g1
  obtain ⟨its2, rv2, p2, _⟩ := I1.tuple g2
  obtain ⟨its3, rv3, p3, _⟩ := I1.list g3
  have la : a < s1.heap.objs.size := let ⟨_, ho, _⟩ := p1; Heap.lt_size ho
  have lb : b < s1.heap.objs.size := let ⟨_, ho, _⟩ := p2; Heap.lt_size ho
  have lc : c < s1.heap.objs.size := p3.lt
  refine zip_begins3 (begins_tuple a its1.toArray) (begins_tuple b its2.toArray) (begins_list c its3.toArray) p1 p2 p3.isList fun h' hz hTI hTO e1 e2 e3 hsz hk => wpAny_pyIter_zip hz ?_
  have S := zip_sep3 (N := s1.heap.objs.size) (fp1 := [a]) (fp2 := [b]) (fp3 := [c]) (fun d hd => by rw [List.mem_singleton.mp hd]; exact la) (fun d hd => by rw [List.mem_singleton.mp hd]; exact lb) (fun d hd => by rw [List.mem_singleton.mp hd]; exact lc)
  refine ⟨s1.heap.objs.size + 5, [s1.heap.objs.size + 5, s1.heap.objs.size + 3, s1.heap.objs.size + 4, s1.heap.objs.size, s1.heap.objs.size + 1, s1.heap.objs.size + 2], _, _, H1, rfl, I1.kept (t' := s1.toks) hk,
    turn_iz3 a b c _ _ _ _ _ _ S (Nat.ne_of_lt la) (Nat.ne_of_lt (Nat.lt_of_lt_of_le lb (Nat.le_add_right _ _))) (Nat.ne_of_lt (Nat.lt_of_lt_of_le lc (Nat.le_add_right _ _))), ⟨hz, hTI, ⟨_, _, _, hTO⟩, ⟨_, e1, rfl, rfl⟩, ⟨_, e2, rfl, rfl⟩, ⟨_, e3, rfl, rfl⟩⟩, fun d hd => ?_, q⟩
  have hle : s1.heap.objs.size ≤ d := by
    simp only [List.mem_cons, List.not_mem_nil, or_false] at hd
    rcases hd with rfl | rfl | rfl | rfl | rfl | rfl
    · exact Nat.le_add_right _ _
    · exact Nat.le_add_right _ _
    · exact Nat.le_add_right _ _
    · exact Nat.le_refl _
    · exact Nat.le_add_right _ _
    · exact Nat.le_add_right _ _
  exact I1.fpOk hle (I1.hok.fresh hle)
end DL

set_option maxHeartbeats 4000000
/-! DLLoop: what is walked, list comprehensions. -/
namespace DL
open PySem PySem.Spec PyProof.Rows L2 RZ
/-! ### iterators -/
structure WalkD (K : Frag) (g : G) (J : It) (w : Wd) (ds : List D) : Prop where
  go : ∀ i w', Wk w w' → Ex w'.F w'.H → i < ds.length → J.go i w'.H
  stop : ∀ w', Wk w w' → Ex w'.F w'.H → J.stop ds.length w'.H
  yld : ∀ (i : Nat) w' μ x H' d, Wk w w' → Sim K g w' μ → ds[i]? = some d → J.yld i w'.H x H' → ∃ w'', w''.H = H' ∧ Le w' w'' ∧ Sim K g w'' μ ∧ Rp K w''.as w''.F x d
abbrev DI := Slots → Mu → Res (List D)
abbrev RelJ (K : Frag) (g : G) : Wd → It → List D → Prop := fun w J ds => WalkD K g J w ds
def EvI (K : Frag) (g : G) (W : WX) (wi : TI) (f : DI) : Prop := ∀ (H0 : Hp) sd μ w σ, SimS K H0 w sd σ → Sim K g w μ → Out K g W σ w (RelJ K g) (f sd μ) fun Q => wi σ w.H Q
structure PID (X : Cx) (g : G) (W : WX) (tg e : Expr) (wi : TI) (f : DI) : Prop where
  pi : PI X tg e wi
  ev : EvI X.K g W wi f
theorem lt_get {α : Type} {l : List α} {i : Nat} (h : i < l.length) : l[i]? = some l[i] := List.getElem?_eq_getElem h
section
variable {K : Frag} {g : G} {w : Wd}
theorem walkL {a : Addr} {vs : List V} {ds : List D} (h : w.F a = some (.lst vs)) (r : RpA K w.as w.F vs ds) : WalkD K g (Itl K a) w ds where
  go := fun i w' k e hi => by
    have q : SqL K w'.H a vs := sqL_of (e _ _ (k.ex _ _ h))
    exact ⟨vs, vs[i]'(by rw [r.length]; exact hi), q, lt_get _⟩
  stop := fun w' k e => ⟨vs, sqL_of (e _ _ (k.ex _ _ h)), Nat.le_of_eq r.length⟩
  yld := fun i w' μ x H' d k S hd y => by
    obtain ⟨rfl, y⟩ := y
    have hx := y vs (sqL_of (S.sub _ _ (k.ex _ _ h)))
    obtain ⟨v, hv, rv⟩ := r.get hd
    rw [hx] at hv
    cases hv
    exact ⟨w', rfl, .refl _, S, rv.wk k⟩
theorem walkT {a : Addr} {vs : List V} {ds : List D} (h : SqT K w.F a vs) (r : RpA K w.as w.F vs ds) : WalkD K g (Itt K a) w ds where
  go := fun i w' k e hi => by
    have q : SqT K w'.H a vs := e.sqT (k.ex.sqT h)
    exact ⟨vs, vs[i]'(by rw [r.length]; exact hi), q, lt_get _⟩
  stop := fun w' k e => ⟨vs, e.sqT (k.ex.sqT h), Nat.le_of_eq r.length⟩
  yld := fun i w' μ x H' d k S hd y => by
    obtain ⟨rfl, y⟩ := y
    have hx := y vs (S.sub.sqT (k.ex.sqT h))
    obtain ⟨v, hv, rv⟩ := r.get hd
    rw [hx] at hv
    cases hv
    exact ⟨w', rfl, .refl _, S, rv.wk k⟩
def strD (z : Str) : List D := z.cps.toList.map fun c => .str ⟨#[c]⟩
theorem walkS {z : Str} : WalkD K g (Its z) w (strD z) where
  go := fun i w' k e hi => by
    have hi : i < (strD z).length := hi
    unfold strD at hi
    rw [List.length_map] at hi
    show i < z.cps.size
    simpa using hi
  stop := fun w' k e => by
    show z.cps.size ≤ (strD z).length
    unfold strD
    rw [List.length_map]
    simp
  yld := fun i w' μ x H' d k S hd y => by
    obtain ⟨rfl, c, hc, rfl⟩ := y
    unfold strD at hd
    rw [List.getElem?_map, Array.getElem?_toList, hc] at hd
    cases hd
    exact ⟨w', rfl, .refl _, S, .str _⟩
theorem rgD_get {lo hi : Int} {i : Nat} {d : D} (h : (rgD lo hi)[i]? = some d) : d = .int (lo + (i : Int)) := by
  unfold rgD at h
  rw [List.getElem?_map] at h
  by_cases hl : i < (hi - lo).toNat
  · rw [List.getElem?_range hl] at h
    cases h
    rfl
  · rw [List.getElem?_eq_none (by simpa using hl)] at h
    cases h
theorem rgD_len (lo hi : Int) : (rgD lo hi).length = (hi - lo).toNat := by simp [rgD]
theorem walkR {lo hi : Int} : WalkD K g (Itr lo (hi - lo).toNat) w (rgD lo hi) where
  go := fun i w' k e h => by rw [rgD_len] at h; exact h
  stop := fun w' k e => by rw [rgD_len]; exact Nat.le_refl _
  yld := fun i w' μ x H' d k S hd y => by
    obtain ⟨rfl, rfl⟩ := y
    rw [rgD_get hd]
    exact ⟨w', rfl, .refl _, S, .int _⟩
theorem yldT {w' : Wd} {μ : Mu} {H' : Hp} {T : Addr} {vs : List V} {ds : List D} (S : Sim K g w' μ) (hT : w'.H T = none) (e : H' = upd w'.H T (.tup vs)) (r : RpA K w'.as w'.F vs ds) :
    ∃ w'', w''.H = H' ∧ Le w' w'' ∧ Sim K g w'' μ ∧ Rp K w''.as w''.F (.ref T) (.tuple ds) :=
  ⟨w'.put T (.tup vs), e.symm, S.putLe hT, S.put hT, .tup (.inl (.inl Wd.put_F)) (r.le (S.putLe (o := .tup vs) hT))⟩
def enumD (ds : List D) : List D := ds.zipIdx.map fun p => .tuple [.int (p.2 : Nat), p.1]
theorem enumD_get {ds : List D} {i : Nat} {d : D} (h : (enumD ds)[i]? = some d) : ∃ e, ds[i]? = some e ∧ d = .tuple [.int (i : Nat), e] := by
  unfold enumD at h
  rw [List.getElem?_map, List.getElem?_zipIdx] at h
  cases q : ds[i]? with
  | none => rw [q] at h; cases h
  | some e =>
    rw [q] at h
    simp only [Option.map_some, Nat.zero_add] at h
    cases h
    exact ⟨e, rfl, rfl⟩
theorem enumD_len (ds : List D) : (enumD ds).length = ds.length := by simp [enumD]
theorem walkEL {a : Addr} {vs : List V} {ds : List D} (h : w.F a = some (.lst vs)) (r : RpA K w.as w.F vs ds) : WalkD K g (Ite K a) w (enumD ds) where
  go := fun i w' k e hi => by
    rw [enumD_len] at hi
    exact ⟨vs, vs[i]'(by rw [r.length]; exact hi), sqL_of (e _ _ (k.ex _ _ h)), lt_get _⟩
  stop := fun w' k e => ⟨vs, sqL_of (e _ _ (k.ex _ _ h)), by rw [enumD_len]; exact Nat.le_of_eq r.length⟩
  yld := fun i w' μ x H' d k S hd y => by
    obtain ⟨T, y, rfl, hT, e, hy⟩ := y
    obtain ⟨c, hc, rfl⟩ := enumD_get hd
    have hx := hy vs (sqL_of (S.sub _ _ (k.ex _ _ h)))
    obtain ⟨v, hv, rv⟩ := r.get hc
    rw [hx] at hv
    cases hv
    exact yldT S hT e (.cons (.int _) (.cons (rv.wk k) .nil))
theorem walkET {a : Addr} {vs : List V} {ds : List D} (h : SqT K w.F a vs) (r : RpA K w.as w.F vs ds) : WalkD K g (Iet K a) w (enumD ds) where
  go := fun i w' k e hi => by
    rw [enumD_len] at hi
    exact ⟨vs, vs[i]'(by rw [r.length]; exact hi), e.sqT (k.ex.sqT h), lt_get _⟩
  stop := fun w' k e => ⟨vs, e.sqT (k.ex.sqT h), by rw [enumD_len]; exact r.length⟩
  yld := fun i w' μ x H' d k S hd y => by
    obtain ⟨T, y, rfl, hT, e, hy⟩ := y
    obtain ⟨c, hc, rfl⟩ := enumD_get hd
    have hx := hy vs (S.sub.sqT (k.ex.sqT h))
    obtain ⟨v, hv, rv⟩ := r.get hc
    rw [hx] at hv
    cases hv
    exact yldT S hT e (.cons (.int _) (.cons (rv.wk k) .nil))
def zip2D (xs ys : List D) : List D := List.zipWith (fun x y => .tuple [x, y]) xs ys
theorem zip2D_get {xs ys : List D} {i : Nat} {d : D} (h : (zip2D xs ys)[i]? = some d) : ∃ x y, xs[i]? = some x ∧ ys[i]? = some y ∧ d = .tuple [x, y] := by
  unfold zip2D at h
  rw [List.getElem?_zipWith] at h
  cases q : xs[i]? with
  | none => rw [q] at h; cases h
  | some x =>
    cases q2 : ys[i]? with
    | none => rw [q, q2] at h; cases h
    | some y =>
      rw [q, q2] at h
      cases h
      exact ⟨x, y, rfl, rfl, rfl⟩
theorem zip2D_len (xs ys : List D) : (zip2D xs ys).length = min xs.length ys.length := by simp [zip2D]
theorem walkZL {a b : Addr} {vs us : List V} {ds es : List D} (h : w.F a = some (.lst vs)) (r : RpA K w.as w.F vs ds) (h' : w.F b = some (.lst us)) (r' : RpA K w.as w.F us es) : WalkD K g (Itz K a b) w (zip2D ds es) where
  go := fun i w' k e hi => by
    rw [zip2D_len] at hi
    exact ⟨vs, us, vs[i]'(by rw [r.length]; omega), us[i]'(by rw [r'.length]; omega), sqL_of (e _ _ (k.ex _ _ h)), sqL_of (e _ _ (k.ex _ _ h')), lt_get _, lt_get _⟩
  stop := fun w' k e => ⟨vs, us, sqL_of (e _ _ (k.ex _ _ h)), sqL_of (e _ _ (k.ex _ _ h')), by rw [zip2D_len, r.length, r'.length]; omega⟩
  yld := fun i w' μ x H' d k S hd y => by
    obtain ⟨T, y, z, rfl, hT, e, hy, hz⟩ := y
    obtain ⟨c, c', hc, hc', rfl⟩ := zip2D_get hd
    have hx := hy vs (sqL_of (S.sub _ _ (k.ex _ _ h)))
    have hx' := hz us (sqL_of (S.sub _ _ (k.ex _ _ h')))
    obtain ⟨v, hv, rv⟩ := r.get hc
    obtain ⟨v', hv', rv'⟩ := r'.get hc'
    rw [hx] at hv
    rw [hx'] at hv'
    cases hv
    cases hv'
    exact yldT S hT e (.cons (rv.wk k) (.cons (rv'.wk k) .nil))
theorem walkZT {a b : Addr} {vs us : List V} {ds es : List D} (h : SqT K w.F a vs) (r : RpA K w.as w.F vs ds) (h' : SqT K w.F b us) (r' : RpA K w.as w.F us es) : WalkD K g (ItzT K a b) w (zip2D ds es) where
  go := fun i w' k e hi => by
    rw [zip2D_len] at hi
    exact ⟨vs, us, vs[i]'(by rw [r.length]; omega), us[i]'(by rw [r'.length]; omega), e.sqT (k.ex.sqT h), e.sqT (k.ex.sqT h'), lt_get _, lt_get _⟩
  stop := fun w' k e => ⟨vs, us, e.sqT (k.ex.sqT h), e.sqT (k.ex.sqT h'), by rw [zip2D_len, r.length, r'.length]; omega⟩
  yld := fun i w' μ x H' d k S hd y => by
    obtain ⟨T, y, z, rfl, hT, e, hy, hz⟩ := y
    obtain ⟨c, c', hc, hc', rfl⟩ := zip2D_get hd
    have hx := hy vs (S.sub.sqT (k.ex.sqT h))
    have hx' := hz us (S.sub.sqT (k.ex.sqT h'))
    obtain ⟨v, hv, rv⟩ := r.get hc
    obtain ⟨v', hv', rv'⟩ := r'.get hc'
    rw [hx] at hv
    rw [hx'] at hv'
    cases hv
    cases hv'
    exact yldT S hT e (.cons (rv.wk k) (.cons (rv'.wk k) .nil))
def zip3D : List D → List D → List D → List D
  | x :: xs, y :: ys, z :: zs => .tuple [x, y, z] :: zip3D xs ys zs
  | _, _, _ => []
theorem zip3D_get : ∀ {xs ys zs : List D} {i : Nat} {d : D}, (zip3D xs ys zs)[i]? = some d → ∃ x y z, xs[i]? = some x ∧ ys[i]? = some y ∧ zs[i]? = some z ∧ d = .tuple [x, y, z]
  | x :: xs, y :: ys, z :: zs, 0, d, h => by
    have h : some (PyData.tuple [x, y, z]) = some d := h
    cases h
    exact ⟨x, y, z, rfl, rfl, rfl, rfl⟩
  | x :: xs, y :: ys, z :: zs, i + 1, d, h => zip3D_get (xs := xs) (ys := ys) (zs := zs) (i := i) h
  | [], _, _, _, _, h => by simp [zip3D] at h
  | _ :: _, [], _, _, _, h => by simp [zip3D] at h
  | _ :: _, _ :: _, [], _, _, h => by simp [zip3D] at h
theorem zip3D_len : ∀ (xs ys zs : List D), (zip3D xs ys zs).length = min (min xs.length ys.length) zs.length
  | x :: xs, y :: ys, z :: zs => by
    show (zip3D xs ys zs).length + 1 = _
    rw [zip3D_len xs ys zs]
    simp only [List.length_cons]
    omega
  | [], _, _ => by simp [zip3D]
  | _ :: _, [], _ => by simp [zip3D]
  | _ :: _, _ :: _, [] => by simp [zip3D]
theorem walkZ3 {a b c : Addr} {vs us ts : List V} {ds es fs : List D} (h : SqT K w.F a vs) (r : RpA K w.as w.F vs ds) (h' : SqT K w.F b us) (r' : RpA K w.as w.F us es) (h2 : w.F c = some (.lst ts)) (r2 : RpA K w.as w.F ts fs) : WalkD K g (Iz3 K a b c) w (zip3D ds es fs) where
  go := fun i w' k e hi => by
    rw [zip3D_len] at hi
    exact ⟨vs, us, ts, vs[i]'(by rw [r.length]; omega), us[i]'(by rw [r'.length]; omega), ts[i]'(by rw [r2.length]; omega), e.sqT (k.ex.sqT h), e.sqT (k.ex.sqT h'), sqL_of (e _ _ (k.ex _ _ h2)), lt_get _, lt_get _, lt_get _⟩
  stop := fun w' k e => ⟨vs, us, ts, e.sqT (k.ex.sqT h), e.sqT (k.ex.sqT h'), sqL_of (e _ _ (k.ex _ _ h2)), by rw [zip3D_len, r.length, r'.length, r2.length]⟩
  yld := fun i w' μ x H' d k S hd y => by
    obtain ⟨T, y, z, u, rfl, hT, e, hy, hz, hu⟩ := y
    obtain ⟨c, c', c2, hc, hc', hc2, rfl⟩ := zip3D_get hd
    have hx := hy vs (S.sub.sqT (k.ex.sqT h))
    have hx' := hz us (S.sub.sqT (k.ex.sqT h'))
    have hx2 := hu ts (sqL_of (S.sub _ _ (k.ex _ _ h2)))
    obtain ⟨v, hv, rv⟩ := r.get hc
    obtain ⟨v', hv', rv'⟩ := r'.get hc'
    obtain ⟨v2, hv2, rv2⟩ := r2.get hc2
    rw [hx] at hv
    rw [hx'] at hv'
    rw [hx2] at hv2
    cases hv
    cases hv'
    cases hv2
    exact yldT S hT e (.cons (rv.wk k) (.cons (rv'.wk k) (.cons (rv2.wk k) .nil)))
end

section
variable {X : Cx} {g : G} {W : WX} {tg a b c : Expr} {ta tb tc : TE} {fa fb fc : DE} {pos : Pos}
theorem PI.or {wi wi' : TI} (h : PI X tg a wi) (h' : PI X tg a wi') : PI X tg a (fun σ H R => wi σ H R ∨ wi' σ H R) := ⟨fun pins s σ H R I q => q.elim (fun q => h.run pins s σ H R I q) fun q => h'.run pins s σ H R I q⟩
def itemsOf : D → Option (List D)
  | .list xs => some xs
  | .tuple xs => some xs
  | .str z => some (strD z)
  | _ => none
def iAny (fa : DE) : DI := fun sd μ => (fa sd μ).bind fun d μ1 => lift (itemsOf d) μ1
theorem i_any (h : PED X g W a ta fa) : PID X g W tg a (fun σ H R => iList X.K ta σ H R ∨ (iTup X.K ta σ H R ∨ iStr ta σ H R)) (iAny fa) := ⟨PI.or (pi_list h.pe) (PI.or (pi_tup h.pe) (pi_str h.pe)), fun H0 sd μ w σ SS S => by
  have z := h.ev H0 sd μ w σ SS S
  unfold iAny
  cases e : fa sd μ with
  | ok d μ1 =>
    rw [e] at z
    refine Out.lift (T := fun R => iList X.K ta σ w.H R ∨ (iTup X.K ta σ w.H R ∨ iStr ta σ w.H R)) fun ds hd => ?_
    unfold itemsOf at hd
    split at hd
    · cases hd
      refine fun R q => .inl (z _ fun w1 x l1 S1 r => ?_)
      obtain ⟨a, vs, rfl, ha, ra⟩ := r.lstV
      exact ⟨a, rfl, ⟨vs, sqL_of (S1.sub _ _ ha)⟩, q w1 _ l1 S1 (walkL ha ra)⟩
    · cases hd
      refine fun R q => .inr (.inl (z _ fun w1 x l1 S1 r => ?_))
      obtain ⟨a, vs, rfl, ha, ra⟩ := r.tupV
      exact ⟨a, rfl, ⟨vs, S1.sub.sqT ha⟩, q w1 _ l1 S1 (walkT ha ra)⟩
    · cases hd
      refine fun R q => .inr (.inr (z _ fun w1 x l1 S1 r => ?_))
      rw [r.strV]
      exact ⟨_, rfl, q w1 _ l1 S1 walkS⟩
    · cases hd
  | exc c μ1 =>
    rw [e] at z
    exact fun R q => .inl (z _ q)
  | bad => trivial⟩
/-- range(n) -/
def iRg1 (fa : DE) : DI := fun sd μ => (fa sd μ).bind fun d μ1 => (lift ((asInt d).bind rgOk) μ1).bind fun n μ2 => .ok (rgD 0 n) μ2
theorem i_rg1 {p : Pos} (h : PED X g W a ta fa) (hm : X.mg "range" = none) (hg : Gl X "range" := by rfl) (hs : starEach [a] X.env = [(false, eval a X.env)] := by rfl) (he : starEach [a] X.env = (false, eval a X.env) :: starEach [] X.env := by rfl) :
    PID X g W tg (.Call (.Name "range" p) [a] [] pos) (iRng1 (tCons ta tNil)) (iRg1 fa) := ⟨pi_range1 hg hm (pa_cons h.pe pa_nil he) hs, fun H0 sd μ w σ SS S => by
  refine Out.bind (T1 := fun x H R => ∃ j : Int, [x] = [V.int j] ∧ -(2 ^ 62) ≤ j ∧ j < 2 ^ 62 ∧ R (Itr 0 j.toNat) H) (h.ev H0 sd μ w σ SS S) fun d μ1 w1 v l1 S1 r => ?_
  cases d with
  | int n =>
    cases r
    show Out _ _ _ _ _ _ ((lift (rgOk n) μ1).bind fun n μ2 => .ok (rgD 0 n) μ2) _
    unfold rgOk
    split
    · rename_i h
      have e : (n - 0).toNat = n.toNat := by omega
      have wk : WalkD X.K g (Itr 0 n.toNat) w1 (rgD 0 n) := by
        rw [← e]
        exact walkR
      exact Out.ok S1 wk fun R q => ⟨n, rfl, by omega, by omega, q⟩
    · trivial
  | _ => trivial⟩
/-- range(a, b) -/
def rg2Ok (lo hi : D) : Option (Int × Int) := match lo, hi with
  | .int i, .int j => if -100000 ≤ i ∧ i ≤ 100000 ∧ -100000 ≤ j ∧ j ≤ 100000 then some (i, j) else none
  | _, _ => none
def iRg2 (fa fb : DE) : DI := fun sd μ => (fa sd μ).bind fun d μ1 => (fb sd μ1).bind fun e μ2 => (lift (rg2Ok d e) μ2).bind fun p μ3 => .ok (rgD p.1 p.2) μ3
theorem i_rg2 {p : Pos} (h : PED X g W a ta fa) (h' : PED X g W b tb fb) (hm : X.mg "range" = none) (hg : Gl X "range" := by rfl) (hs : starEach [a, b] X.env = [(false, eval a X.env), (false, eval b X.env)] := by rfl) (hs2 : starEach [b] X.env = [(false, eval b X.env)] := by rfl)
    (he : starEach [a, b] X.env = (false, eval a X.env) :: starEach [b] X.env := by rfl) (he2 : starEach [b] X.env = (false, eval b X.env) :: starEach [] X.env := by rfl) :
    PID X g W tg (.Call (.Name "range" p) [a, b] [] pos) (iRng2 (tCons ta (tCons tb tNil))) (iRg2 fa fb) := ⟨pi_range2 hg hm (pa_cons h.pe (pa_cons h'.pe pa_nil he2) he) hs hs2, fun H0 sd μ w σ SS S => by
  refine Out.bind (T1 := fun x H R => tb σ H fun y H2 => ∃ i j : Int, [x, y] = [V.int i, V.int j] ∧ (-(2 ^ 62) ≤ i ∧ i < 2 ^ 62 ∧ -(2 ^ 62) ≤ j ∧ j < 2 ^ 62) ∧ R (Itr i (j - i).toNat) H2) (h.ev H0 sd μ w σ SS S) fun d μ1 w1 v l1 S1 r => ?_
  refine Out.bind (T1 := fun y H2 R => ∃ i j : Int, [v, y] = [V.int i, V.int j] ∧ (-(2 ^ 62) ≤ i ∧ i < 2 ^ 62 ∧ -(2 ^ 62) ≤ j ∧ j < 2 ^ 62) ∧ R (Itr i (j - i).toNat) H2) (h'.ev H0 sd μ1 w1 σ (SS.le l1) S1) fun e μ2 w2 u l2 S2 r2 => ?_
  unfold rg2Ok
  split
  · split
    · rename_i hh
      rw [r.intV, r2.intV]
      exact Out.ok S2 walkR fun R q => ⟨_, _, rfl, by omega, q⟩
    · trivial
  · trivial⟩
/-- enumerate(xs) -/
def iEn (fa : DE) : DI := fun sd μ => (fa sd μ).bind fun d μ1 => (lift (asSeq d) μ1).bind fun ds μ2 => .ok (enumD ds) μ2
theorem i_enum {p tpos : Pos} {elts : List Expr} {kk : Nat} (h : PED X g W a ta fa) (hm : X.mg "enumerate" = none) (hg : Gl X "enumerate" := by rfl) (hs : starEach [a] X.env = [(false, eval a X.env)] := by rfl) (he : starEach [a] X.env = (false, eval a X.env) :: starEach [] X.env := by rfl) :
    PID X g W (.Tuple elts kk tpos) (.Call (.Name "enumerate" p) [a] [] pos) (iEnumT X.K (tCons ta tNil)) (iEn fa) := ⟨pi_enumT hg hm (pa_cons h.pe pa_nil he) hs, fun H0 sd μ w σ SS S => by
  refine Out.bind (T1 := fun x H R => ∃ a xs, [x] = [V.ref a] ∧ ((SqL X.K H a xs ∧ R (Ite X.K a) H) ∨ (SqT X.K H a xs ∧ R (Iet X.K a) H))) (h.ev H0 sd μ w σ SS S) fun d μ1 w1 v l1 S1 r => ?_
  unfold asSeq
  split
  · obtain ⟨a, vs, rfl, ha, ra⟩ := r.lstV
    exact Out.ok S1 (walkEL ha ra) fun R q => ⟨a, vs, rfl, .inl ⟨sqL_of (S1.sub _ _ ha), q⟩⟩
  · obtain ⟨a, vs, rfl, ha, ra⟩ := r.tupV
    exact Out.ok S1 (walkET ha ra) fun R q => ⟨a, vs, rfl, .inr ⟨S1.sub.sqT ha, q⟩⟩
  · trivial⟩
/-- zip(xs, ys), zip(t, u, xs) -/
def zip2Of : D → D → Option (List D)
  | .list xs, .list ys => some (zip2D xs ys)
  | .tuple xs, .tuple ys => some (zip2D xs ys)
  | _, _ => none
def iZ2 (fa fb : DE) : DI := fun sd μ => (fa sd μ).bind fun d μ1 => (fb sd μ1).bind fun e μ2 => lift (zip2Of d e) μ2
theorem i_zip2 {p tpos : Pos} {elts : List Expr} {kk : Nat} (h : PED X g W a ta fa) (h' : PED X g W b tb fb) (hm : X.mg "zip" = none) (hg : Gl X "zip" := by rfl) (hs : starEach [a, b] X.env = (false, eval a X.env) :: starEach [b] X.env := by rfl) (hpl : (backTo pos (starEach [b] X.env)).any (·.1) = false := by rfl)
    (he2 : starEach [b] X.env = (false, eval b X.env) :: starEach [] X.env := by rfl) : PID X g W (.Tuple elts kk tpos) (.Call (.Name "zip" p) [a, b] [] pos) (iZipA X.K (tCons ta (tCons tb tNil))) (iZ2 fa fb) := ⟨pi_zipA hg hm (pa_cons h.pe (pa_cons h'.pe pa_nil he2) hs) hs hpl, fun H0 sd μ w σ SS S => by
  refine Out.bind (T1 := fun x H R => tb σ H fun y H2 => ∃ a b xs ys, [x, y] = [V.ref a, V.ref b] ∧ ((SqL X.K H2 a xs ∧ SqL X.K H2 b ys ∧ R (Itz X.K a b) H2) ∨ (SqT X.K H2 a xs ∧ SqT X.K H2 b ys ∧ R (ItzT X.K a b) H2))) (h.ev H0 sd μ w σ SS S) fun d μ1 w1 v l1 S1 r => ?_
  refine Out.bind (T1 := fun y H2 R => ∃ a b xs ys, [v, y] = [V.ref a, V.ref b] ∧ ((SqL X.K H2 a xs ∧ SqL X.K H2 b ys ∧ R (Itz X.K a b) H2) ∨ (SqT X.K H2 a xs ∧ SqT X.K H2 b ys ∧ R (ItzT X.K a b) H2))) (h'.ev H0 sd μ1 w1 σ (SS.le l1) S1) fun e μ2 w2 u l2 S2 r2 => ?_
  refine Out.lift fun ds hd => ?_
  have r := r.le l2
  unfold zip2Of at hd
  split at hd
  · cases hd
    obtain ⟨a, vs, rfl, ha, ra⟩ := r.lstV
    obtain ⟨b, us, rfl, hb, rb⟩ := r2.lstV
    exact Out.ok S2 (walkZL ha ra hb rb) fun R q => ⟨a, b, vs, us, rfl, .inl ⟨sqL_of (S2.sub _ _ ha), sqL_of (S2.sub _ _ hb), q⟩⟩
  · cases hd
    obtain ⟨a, vs, rfl, ha, ra⟩ := r.tupV
    obtain ⟨b, us, rfl, hb, rb⟩ := r2.tupV
    exact Out.ok S2 (walkZT ha ra hb rb) fun R q => ⟨a, b, vs, us, rfl, .inr ⟨S2.sub.sqT ha, S2.sub.sqT hb, q⟩⟩
  · cases hd⟩
def zip3Of : D → D → D → Option (List D)
  | .tuple xs, .tuple ys, .list zs => some (zip3D xs ys zs)
  | _, _, _ => none
def iZ3 (fa fb fc : DE) : DI := fun sd μ => (fa sd μ).bind fun d μ1 => (fb sd μ1).bind fun e μ2 => (fc sd μ2).bind fun f μ3 => lift (zip3Of d e f) μ3
theorem i_zip3 {p tpos : Pos} {elts : List Expr} {kk : Nat} (h : PED X g W a ta fa) (h' : PED X g W b tb fb) (h2 : PED X g W c tc fc) (hm : X.mg "zip" = none) (hg : Gl X "zip" := by rfl) (hs : starEach [a, b, c] X.env = (false, eval a X.env) :: starEach [b, c] X.env := by rfl) (hpl : (backTo pos (starEach [b, c] X.env)).any (·.1) = false := by rfl)
    (he2 : starEach [b, c] X.env = (false, eval b X.env) :: starEach [c] X.env := by rfl) (he3 : starEach [c] X.env = (false, eval c X.env) :: starEach [] X.env := by rfl) :
    PID X g W (.Tuple elts kk tpos) (.Call (.Name "zip" p) [a, b, c] [] pos) (iZip3 X.K (tCons ta (tCons tb (tCons tc tNil)))) (iZ3 fa fb fc) := ⟨pi_zip3 hg hm (pa_cons h.pe (pa_cons h'.pe (pa_cons h2.pe pa_nil he3) he2) hs) hs hpl, fun H0 sd μ w σ SS S => by
  refine Out.bind (T1 := fun x H R => tb σ H fun y H2 => tc σ H2 fun z H3 => ∃ a b c xs ys zs, [x, y, z] = [V.ref a, V.ref b, V.ref c] ∧ SqT X.K H3 a xs ∧ SqT X.K H3 b ys ∧ SqL X.K H3 c zs ∧ R (Iz3 X.K a b c) H3) (h.ev H0 sd μ w σ SS S) fun d μ1 w1 v l1 S1 r => ?_
  refine Out.bind (T1 := fun y H2 R => tc σ H2 fun z H3 => ∃ a b c xs ys zs, [v, y, z] = [V.ref a, V.ref b, V.ref c] ∧ SqT X.K H3 a xs ∧ SqT X.K H3 b ys ∧ SqL X.K H3 c zs ∧ R (Iz3 X.K a b c) H3) (h'.ev H0 sd μ1 w1 σ (SS.le l1) S1) fun e μ2 w2 u l2 S2 r2 => ?_
  refine Out.bind (T1 := fun z H3 R => ∃ a b c xs ys zs, [v, u, z] = [V.ref a, V.ref b, V.ref c] ∧ SqT X.K H3 a xs ∧ SqT X.K H3 b ys ∧ SqL X.K H3 c zs ∧ R (Iz3 X.K a b c) H3) (h2.ev H0 sd μ2 w2 σ (SS.le (l1.trans l2)) S2) fun f μ3 w3 t l3 S3 r3 => ?_
  refine Out.lift fun ds hd => ?_
  have r := r.le (l2.trans l3)
  have r2 := r2.le l3
  unfold zip3Of at hd
  split at hd
  · cases hd
    obtain ⟨a, vs, rfl, ha, ra⟩ := r.tupV
    obtain ⟨b, us, rfl, hb, rb⟩ := r2.tupV
    obtain ⟨c, ts, rfl, hc, rc⟩ := r3.lstV
    exact Out.ok S3 (walkZ3 ha ra hb rb hc rc) fun R q => ⟨a, b, c, vs, us, ts, rfl, S3.sub.sqT ha, S3.sub.sqT hb, sqL_of (S3.sub _ _ hc), q⟩
  · cases hd⟩
end

/-! ### targets -/
abbrev DG := D → Slots → Option Slots
/-- slots at other places stand -/
def SameBut (is : List Nat) (σ σ' : L2.St) : Prop := σ'.length = σ.length ∧ ∀ j, j ∉ is → σ'[j]? = σ[j]?
structure PGD (X : Cx) (g : G) (tg : Expr) (gt : TG) (f : DG) (is : List Nat) : Prop where
  pg : PG X tg gt
  ev : ∀ (H0 : Hp) sd sd' w σ μ x d, SimS X.K H0 w sd σ → Sim X.K g w μ → Rp X.K w.as w.F x d → f d sd = some sd' → ∀ Q : L2.St → Hp → Prop, (∀ σ', SimS X.K H0 w sd' σ' → SameBut is σ σ' → Q σ' w.H) → gt x σ w.H Q
theorem SameBut.refl (is : List Nat) (σ : L2.St) : SameBut is σ σ := ⟨rfl, fun _ _ => rfl⟩
theorem SameBut.set {σ : L2.St} (i : Nat) (x : Option V) : SameBut [i] σ (σ.set i x) := ⟨by simp, fun j h => by rw [List.getElem?_set_ne (fun e => h (by simp [e]))]⟩
theorem SameBut.trans {is js : List Nat} {a b c : L2.St} (h : SameBut is a b) (h' : SameBut js b c) : SameBut (is ++ js) a c := ⟨h'.1.trans h.1, fun j hj => by
  rw [List.mem_append, not_or] at hj
  exact (h'.2 j hj.2).trans (h.2 j hj.1)⟩
def gN (i : Nat) : DG := fun d sd => some (sd.set i (some (.v d)))
section
variable {X : Cx} {g : G} {pos : Pos}
theorem g_name {i : Nat} {x : Str} (hN : X.N.Nodup) (hi : X.N[i]? = some x := by rfl) (hx : Loc X.env.scope x := by first | exact Or.inl rfl | exact Or.inr rfl) (hf : X.fn x = true ∨ X.env.scope.names.lookup x = some .local := by first | exact .inl rfl | exact .inr rfl) :
    PGD X g (.Name x pos) (gName i) (gN i) [i] := ⟨pg_name hN hi hx hf, fun H0 sd sd' w σ μ x d SS S r e Q q => by
  cases e
  exact q _ (SS.setV i r) (.set i _)⟩
abbrev DGs := List D → Slots → Option Slots
structure PGDs (X : Cx) (g : G) (ts : List Expr) (gt : TGs) (f : DGs) (is : List Nat) : Prop where
  pg : PGs X ts gt
  ev : ∀ (H0 : Hp) sd sd' w σ μ xs ds, SimS X.K H0 w sd σ → Sim X.K g w μ → RpA X.K w.as w.F xs ds → f ds sd = some sd' → ∀ Q : L2.St → Hp → Prop, (∀ σ', SimS X.K H0 w sd' σ' → SameBut is σ σ' → Q σ' w.H) → gt xs σ w.H Q
def gsNil : DGs := fun ds sd => if ds = [] then some sd else none
def gsCons (f : DG) (h : DGs) : DGs := fun ds sd => match ds with
  | d :: r => (f d sd).bind fun sd1 => h r sd1
  | [] => none
theorem gs_nil : PGDs X g [] gNil (fun ds sd => match ds with | [] => some sd | _ => none) [] := ⟨pgs_nil, fun H0 sd sd' w σ μ xs ds SS S r e Q q => by
  cases r with
  | nil =>
    cases e
    exact ⟨rfl, q σ SS (.refl _ _)⟩
  | cons a b => cases e⟩
theorem gs_cons {e : Expr} {es : List Expr} {t : TG} {u : TGs} {f : DG} {h : DGs} {is js : List Nat} (h1 : PGD X g e t f is) (h2 : PGDs X g es u h js) (hs : (assignEach (e :: es) X.env).map (·.2) = assign e X.env :: (assignEach es X.env).map (·.2) := by rfl) :
    PGDs X g (e :: es) (gCons t u) (gsCons f h) (is ++ js) := ⟨pgs_cons h1.pg h2.pg hs, fun H0 sd sd' w σ μ xs ds SS S r e Q q => by
  cases r with
  | nil => cases e
  | @cons v vs d ds r rs =>
    have e : (f d sd).bind (fun sd1 => h ds sd1) = some sd' := e
    cases e1 : f d sd with
    | none => rw [e1] at e; cases e
    | some sd1 =>
      rw [e1] at e
      have e : h ds sd1 = some sd' := e
      exact ⟨v, vs, rfl, h1.ev H0 sd sd1 w σ μ v d SS S r e1 _ fun σ1 SS1 b1 => h2.ev H0 sd1 sd' w σ1 μ vs ds SS1 S rs e Q fun σ2 SS2 b2 => q σ2 SS2 (b1.trans b2)⟩⟩
/-- (a, b, ..) = a tuple -/
def gTp (f : DGs) : DG := fun d sd => match d with
  | .tuple ds => f ds sd
  | _ => none
theorem g_tup {es : List Expr} {k : Nat} {t : TGs} {f : DGs} {is : List Nat} {n : Nat} (h : PGDs X g es t f is) (hl : ∀ ds sd sd', f ds sd = some sd' → ds.length = n) (hc : X.calm = true := by rfl) (hn : (assignEach es X.env).length = n := by rfl) (hst : (assignEach es X.env).findIdx? (·.1) = none := by rfl) :
    PGD X g (.Tuple es k pos) (gTup X.K n t) (gTp f) is := ⟨pg_tup hc h.pg hn hst, fun H0 sd sd' w σ μ x d SS S r e Q q => by
  unfold gTp at e
  split at e
  · obtain ⟨a, vs, rfl, ha, ra⟩ := r.tupV
    exact ⟨a, vs, rfl, S.sub.sqT ha, by rw [ra.length]; exact hl _ _ _ e, h.ev H0 sd sd' w σ μ vs _ SS S ra e Q q⟩
  · cases e⟩
end
/-- two, three names -/
def g2 (i j : Nat) : DG := fun d sd => match d with
  | .tuple [x, y] => some ((sd.set i (some (.v x))).set j (some (.v y)))
  | _ => none
def g3 (i j k : Nat) : DG := fun d sd => match d with
  | .tuple [x, y, z] => some (((sd.set i (some (.v x))).set j (some (.v y))).set k (some (.v z)))
  | _ => none
section
variable {X : Cx} {g : G} {pos : Pos} {a b c : Expr} {ta tb tc : TG}
theorem g_two {kk i j : Nat} (ha : PGD X g a ta (gN i) [i]) (hb : PGD X g b tb (gN j) [j]) (hc : X.calm = true := by rfl) (hn : (assignEach [a, b] X.env).length = 2 := by rfl) (hst : (assignEach [a, b] X.env).findIdx? (·.1) = none := by rfl)
    (hs : (assignEach [a, b] X.env).map (·.2) = assign a X.env :: (assignEach [b] X.env).map (·.2) := by rfl) (hs2 : (assignEach [b] X.env).map (·.2) = assign b X.env :: (assignEach [] X.env).map (·.2) := by rfl) :
    PGD X g (.Tuple [a, b] kk pos) (gTup X.K 2 (gCons ta (gCons tb gNil))) (g2 i j) [i, j] := by
  have z := g_tup (pos := pos) (k := kk) (n := 2) (gs_cons ha (gs_cons hb gs_nil hs2) hs) (fun ds sd sd' e => by
    match ds, e with
    | [x, y], _ => rfl) hc hn hst
  refine ⟨z.pg, fun H0 sd sd' w σ μ x d SS S r e Q q => z.ev H0 sd sd' w σ μ x d SS S r ?_ Q q⟩
  unfold g2 at e
  split at e
  · cases e
    rfl
  · cases e
theorem g_three {kk i j k : Nat} (ha : PGD X g a ta (gN i) [i]) (hb : PGD X g b tb (gN j) [j]) (hcc : PGD X g c tc (gN k) [k]) (hc : X.calm = true := by rfl) (hn : (assignEach [a, b, c] X.env).length = 3 := by rfl) (hst : (assignEach [a, b, c] X.env).findIdx? (·.1) = none := by rfl)
    (hs : (assignEach [a, b, c] X.env).map (·.2) = assign a X.env :: (assignEach [b, c] X.env).map (·.2) := by rfl) (hs2 : (assignEach [b, c] X.env).map (·.2) = assign b X.env :: (assignEach [c] X.env).map (·.2) := by rfl) (hs3 : (assignEach [c] X.env).map (·.2) = assign c X.env :: (assignEach [] X.env).map (·.2) := by rfl) :
    PGD X g (.Tuple [a, b, c] kk pos) (gTup X.K 3 (gCons ta (gCons tb (gCons tc gNil)))) (g3 i j k) [i, j, k] := by
  have z := g_tup (pos := pos) (k := kk) (n := 3) (gs_cons ha (gs_cons hb (gs_cons hcc gs_nil hs3) hs2) hs) (fun ds sd sd' e => by
    match ds, e with
    | [x, y, z], _ => rfl) hc hn hst
  refine ⟨z.pg, fun H0 sd sd' w σ μ x d SS S r e Q q => z.ev H0 sd sd' w σ μ x d SS S r ?_ Q q⟩
  unfold g3 at e
  split at e
  · cases e
    rfl
  · cases e
end

/-! ### list comprehensions -/
def wipeD (sd : Slots) : List Nat → Slots
  | [] => sd
  | v :: vs => (wipeD sd vs).set v none
theorem wipeD_get (sd : Slots) : ∀ (vs : List Nat) (i : Nat) s, (wipeD sd vs)[i]? = some (some s) → sd[i]? = some (some s) ∧ i ∉ vs
  | [], i, s, h => ⟨h, by simp⟩
  | v :: vs, i, s, h => by
    have h : ((wipeD sd vs).set v none)[i]? = some (some s) := h
    rcases get_set h with ⟨rfl, e, _⟩ | ⟨n, e⟩
    · cases e
    · obtain ⟨h1, h2⟩ := wipeD_get sd vs i s e
      exact ⟨h1, by simp only [List.mem_cons, not_or]; exact ⟨fun e => n e.symm, h2⟩⟩
theorem wipeD_len (sd : Slots) : ∀ vs : List Nat, (wipeD sd vs).length = sd.length
  | [] => rfl
  | v :: vs => by
    show ((wipeD sd vs).set v none).length = _
    rw [List.length_set, wipeD_len sd vs]
theorem wipe_get (σ : L2.St) : ∀ (vs : List Nat) (i : Nat), i ∉ vs → (wipe σ vs)[i]? = σ[i]?
  | [], i, _ => rfl
  | v :: vs, i, h => by
    rw [List.mem_cons, not_or] at h
    show ((wipe σ vs).set v none)[i]? = _
    rw [List.getElem?_set_ne (Ne.symm h.1), wipe_get σ vs i h.2]
theorem wipe_in (σ : L2.St) : ∀ (vs : List Nat) (i : Nat), i ∈ vs → i < σ.length → (wipe σ vs)[i]? = some none
  | v :: vs, i, h, hl => by
    show ((wipe σ vs).set v none)[i]? = _
    by_cases e : v = i
    · subst e
      rw [List.getElem?_set_self (by rw [wipe_length]; exact hl)]
    · rw [List.getElem?_set_ne e]
      exact wipe_in σ vs i ((List.mem_cons.mp h).resolve_left (fun z => e z.symm)) hl
theorem wipe_same {σ σ' : L2.St} {is vs : List Nat} (h : SameBut is (wipe σ vs) σ') (hs : ∀ i ∈ is, i ∈ vs) : wipe σ' vs = wipe σ vs := by
  have hlen : σ'.length = σ.length := by rw [h.1, wipe_length]
  apply List.ext_getElem?
  intro i
  by_cases hi : i ∈ vs
  · by_cases hl : i < σ.length
    · rw [wipe_in σ' vs i hi (by rw [hlen]; exact hl), wipe_in σ vs i hi hl]
    · rw [List.getElem?_eq_none (by rw [wipe_length, hlen]; omega), List.getElem?_eq_none (by rw [wipe_length]; omega)]
  · rw [wipe_get σ' vs i hi, h.2 i fun z => hi (hs i z)]
theorem SimS.wipe {K : Frag} {H0 : Hp} {w : Wd} {sd : Slots} {σ : L2.St} (SS : SimS K H0 w sd σ) (vs : List Nat) : SimS K H0 w (wipeD sd vs) (L2.wipe σ vs) := by
  refine ⟨by rw [wipe_length, wipeD_len, SS.len], fun i s e => ?_, fun i j xs ys a e1 e2 e3 e4 => ?_⟩
  · obtain ⟨h, n⟩ := wipeD_get sd vs i s e
    obtain ⟨x, hx, r⟩ := SS.at_ i s h
    exact ⟨x, by rw [wipe_get σ vs i n]; exact hx, r⟩
  · obtain ⟨h1, n1⟩ := wipeD_get sd vs i _ e1
    obtain ⟨h2, n2⟩ := wipeD_get sd vs j _ e2
    rw [wipe_get σ vs i n1] at e3
    rw [wipe_get σ vs j n2] at e4
    exact SS.sep i j xs ys a h1 h2 e3 e4
def nx {α : Type} : Res α → Res α
  | .ok a μ => .ok a μ
  | _ => .bad
@[simp] theorem nx_ok {α : Type} (a : α) (μ : Mu) : nx (.ok a μ) = .ok a μ := rfl
def lcLoop (tgt : DG) (ft : DT) (fe : DE) (sdw : Slots) : List D → Mu → Res (List D)
  | [], μ => .ok [] μ
  | d :: ds, μ => match tgt d sdw with
    | none => .bad
    | some sd1 => (nx (ft sd1 μ)).bind fun b μ1 => if b = true then (nx (fe sd1 μ1)).bind fun y μ2 => (lcLoop tgt ft fe sdw ds μ2).bind fun ys μ3 => .ok (y :: ys) μ3 else lcLoop tgt ft fe sdw ds μ1
def dLc (fi : DI) (tgt : DG) (ft : DT) (fe : DE) (vs : List Nat) : DA := fun sd μ => (fi sd μ).bind fun ds μ1 => if ds.length ≤ 100000 then nx (lcLoop tgt ft fe (wipeD sd vs) ds μ1) else .bad
def dYes : DT := fun _ μ => .ok true μ
structure PTsD (X : Cx) (g : G) (W : WX) (es : List Expr) (tt : TT) (f : DT) : Prop where
  pt : PTs X es tt
  ev : EvT X.K g W tt f
abbrev W0 : WX := fun _ _ _ _ => False
theorem ts_nil {X : Cx} {g : G} {W : WX} : PTsD X g W [] tYes dYes := ⟨pts_nil, fun H0 sd μ w σ SS S => Out.ok S rfl fun Q q => q⟩
theorem ts_one {X : Cx} {g : G} {W : WX} {c : Expr} {t : TT} {f : DT} (h : PTD X g W c t f) : PTsD X g W [c] t f := ⟨pts_one h.pt, h.ev⟩
theorem lc_len : ∀ {tgt : DG} {ft : DT} {fe : DE} {sdw : Slots} {ds : List D} {μ : Mu} {ys : List D} {μ' : Mu}, lcLoop tgt ft fe sdw ds μ = .ok ys μ' → ys.length ≤ ds.length
  | tgt, ft, fe, sdw, [], μ, ys, μ', h => by
    cases h
    exact Nat.le_refl _
  | tgt, ft, fe, sdw, d :: ds, μ, ys, μ', h => by
    unfold lcLoop at h
    split at h
    · cases h
    · rename_i sd1 e
      cases e1 : nx (ft sd1 μ) with
      | ok b μ1 =>
        rw [e1] at h
        simp only [Res.bind_ok] at h
        split at h
        · cases e2 : nx (fe sd1 μ1) with
          | ok y μ2 =>
            rw [e2] at h
            simp only [Res.bind_ok] at h
            cases e3 : lcLoop tgt ft fe sdw ds μ2 with
            | ok zs μ3 =>
              rw [e3] at h
              cases h
              have := lc_len e3
              simp only [List.length_cons]
              omega
            | exc c μ3 => rw [e3] at h; cases h
            | bad => rw [e3] at h; cases h
          | exc c μ2 => rw [e2] at h; cases h
          | bad => rw [e2] at h; cases h
        · have := lc_len h
          simp only [List.length_cons]
          omega
      | exc c μ1 => rw [e1] at h; cases h
      | bad => rw [e1] at h; cases h
section
variable {X : Cx} {g : G} {W : WX}
theorem ev_lc {K : Frag} {wi : TI} {gt : TG} {tt : TT} {te : TE} {vs is : List Nat} {fi : DI} {tgt : DG} {ft : DT} {fe : DE} (hi : EvI K g W wi fi)
    (hg : ∀ (H0 : Hp) sd sd' w σ μ x d, SimS K H0 w sd σ → Sim K g w μ → Rp K w.as w.F x d → tgt d sd = some sd' → ∀ Q : L2.St → Hp → Prop, (∀ σ', SimS K H0 w sd' σ' → SameBut is σ σ' → Q σ' w.H) → gt x σ w.H Q) (hs : ∀ i ∈ is, i ∈ vs)
    (ht : EvT K g W0 tt ft) (he : EvD K g W0 te fe) : EvL K g W (tLc wi gt tt te vs) (dLc fi tgt ft fe vs) := fun H0 sd μ w σ SS S => by
  refine (Out.bind (T1 := fun J H1 Q => ∀ D, H1 D = none → ∃ W : Nat → Nat → Hp → Prop, (∃ m, W 0 m (upd H1 D (.lst []))) ∧ ∀ i m H, W i m H →
    (J.stop i H ∧ Q (V.ref D) H) ∨ (J.go i H ∧ ∃ Nx : Hp → Prop, (∀ H', Nx H' → ∃ m', m' < m ∧ W (i + 1) m' H') ∧ ∀ x H', J.yld i H x H' → gt x (wipe σ vs) H' fun σ2 H2 => wipe σ2 vs = wipe σ vs ∧ tt σ2 H2 fun b H3 =>
      if b = true then te σ2 H3 fun y H4 => ∃ acc, H4 D = some (.lst acc) ∧ acc.length < sizeLine ∧ Nx (upd H4 D (.lst (acc ++ [y]))) else Nx H3)) (Rel' := RelL K w) (hi H0 sd μ w σ SS S) fun ds μ1 w1 J l1 S1 wk => ?_)
  split
  case isFalse => trivial
  case isTrue hlen =>
  cases eL : lcLoop tgt ft fe (wipeD sd vs) ds μ1 with
  | exc c μ2 => trivial
  | bad => trivial
  | ok ys μ2 =>
  have SW := (SS.le l1).wipe vs
  refine fun Q q D hD => ?_
  -- the word between the turns
  let Pv : Nat → Hp → Prop := fun i H => ∃ w' μi acc pre rest, w'.H = H ∧ Le w1 w' ∧ Sim K g w' μi ∧ w'.F D = none ∧ D ∉ w'.as ∧ H D = some (.lst acc) ∧ RpA K w'.as w'.F acc pre ∧ pre.length ≤ i ∧ lcLoop tgt ft fe (wipeD sd vs) (ds.drop i) μi = .ok rest μ2 ∧ ys = pre ++ rest
  refine ⟨fun i m H => m = ds.length - i ∧ i ≤ ds.length ∧ Pv i H, ⟨ds.length, by simp, Nat.zero_le _, w1.lay D (.lst []), μ1, [], [], ys, rfl, S1.layLe hD, S1.lay (S1.sub.none hD) (S1.notas hD), S1.sub.none hD, S1.notas hD, upd_same, .nil, Nat.le_refl _, eL, rfl⟩, ?_⟩
  rintro i m H ⟨rfl, hle, w', μi, acc, pre, rest, rfl, l', S', hF, hA, hH, ra, hp, eR, eY⟩
  by_cases hlt : i < ds.length
  · refine .inr ⟨wk.go i w' l'.wk S'.sub hlt, Pv (i + 1), fun H' p' => ⟨ds.length - (i + 1), by omega, rfl, hlt, p'⟩, fun x H' hy => ?_⟩
    obtain ⟨w2, rfl, l2, S2, r2⟩ := wk.yld i w' μi x H' ds[i] l'.wk S' (lt_get hlt) hy
    rw [List.drop_eq_getElem_cons hlt] at eR
    unfold lcLoop at eR
    cases eT : tgt ds[i] (wipeD sd vs) with
    | none => rw [eT] at eR; cases eR
    | some sd1 =>
      rw [eT] at eR
      simp only at eR
      refine hg H0 (wipeD sd vs) sd1 w2 (wipe σ vs) μi x ds[i] (SW.le (l'.trans l2)) S2 r2 eT _ fun σ2 SS2 sb => ⟨wipe_same sb hs, ?_⟩
      have hF2 : ∀ {w3 : Wd}, Le w2 w3 → w3.F D = none ∧ D ∉ w3.as ∧ w3.H D = some (.lst acc) := fun {w3} l3 => by
        have hn := l2.trans l3
        refine ⟨?_, fun z => ?_, hn.keep D _ hH hA⟩
        · cases q : w3.F D with
          | none => rfl
          | some o =>
            rcases hn.fresh D o q with z | z
            · rw [hF] at z; cases z
            · rw [hH] at z; cases z
        · rcases hn.news D z with z | z
          · exact hA z
          · rw [hH] at z; cases z
      have zt := ht H0 sd1 μi w2 σ2 SS2 S2
      cases e1 : ft sd1 μi with
      | exc c μ3 => rw [e1] at eR; cases eR
      | bad => rw [e1] at eR; cases eR
      | ok b μ3 =>
        rw [e1] at eR zt
        simp only [nx_ok, Res.bind_ok] at eR
        refine zt _ fun w3 b' l3 S3 eb => ?_
        subst eb
        cases b' with
        | false =>
          rw [if_neg Bool.false_ne_true] at eR
          show Pv (i + 1) w3.H
          obtain ⟨f1, f2, f3⟩ := hF2 l3
          exact ⟨w3, μ3, acc, pre, rest, rfl, (l'.trans l2).trans l3, S3, f1, f2, f3, ra.le (l2.trans l3), by omega, eR, eY⟩
        | true =>
          rw [if_pos rfl] at eR
          show te σ2 w3.H fun y H4 => ∃ acc, H4 D = some (.lst acc) ∧ acc.length < sizeLine ∧ Pv (i + 1) (upd H4 D (.lst (acc ++ [y])))
          have ze := he H0 sd1 μ3 w3 σ2 (SS2.le l3) S3
          cases e2 : fe sd1 μ3 with
          | exc c μ4 => rw [e2] at eR; cases eR
          | bad => rw [e2] at eR; cases eR
          | ok y μ4 =>
            rw [e2] at eR ze
            simp only [nx_ok, Res.bind_ok] at eR
            refine ze _ fun w4 yv l4 S4 ry => ?_
            obtain ⟨f1, f2, f3⟩ := hF2 (l3.trans l4)
            cases e3 : lcLoop tgt ft fe (wipeD sd vs) (ds.drop (i + 1)) μ4 with
            | exc c μ5 => rw [e3] at eR; cases eR
            | bad => rw [e3] at eR; cases eR
            | ok zs μ5 =>
              rw [e3] at eR
              cases eR
              have ra4 := ra.le ((l2.trans l3).trans l4)
              refine ⟨acc, f3, sizeLt (by rw [ra4.length]; omega), w4.lay D (.lst (acc ++ [yv])), μ4, acc ++ [yv], pre ++ [y], zs, rfl, ?_, S4.lay f1 f2, f1, f2, upd_same, ra4.append (.one ry), by rw [List.length_append]; exact Nat.succ_le_succ hp, e3, by rw [eY, List.append_assoc]; rfl⟩
              have lw : Le w1 w4 := ((l'.trans l2).trans l3).trans l4
              refine ⟨lw.pre, lw.ex, lw.fresh, fun a o ha hn => ?_, lw.news, fun a e => ?_⟩
              · show (upd w4.H D _) a = some o
                rw [upd_ne (ne_of_none ha hD)]
                exact lw.keep a o ha hn
              · have e : (upd w4.H D (.lst (acc ++ [yv]))) a = none := e
                by_cases hp : a = D
                · rw [hp]; exact hD
                · rw [upd_ne hp] at e; exact lw.mono a e
  · have e : i = ds.length := by omega
    subst e
    rw [List.drop_length] at eR
    cases eR
    rw [List.append_nil] at eY
    subst eY
    exact .inl ⟨wk.stop w' l'.wk S'.sub, q w' _ l' S' ⟨D, acc, rfl, l1.mono D hD, hF, hA, hH, ra⟩⟩
/-! ### readings that may name the block's own context -/
abbrev PBk (α : Type) := Shared → Hp → Addr → List (Str × Addr) → List Addr → α
def allE (t : PBk TE) : TE := fun σ H Q => ∀ s H' C cl fp, t s H' C cl fp σ H Q
def allT (t : PBk TT) : TT := fun σ H Q => ∀ s H' C cl fp, t s H' C cl fp σ H Q
def allG (t : PBk TG) : TG := fun x σ H Q => ∀ s H' C cl fp, t s H' C cl fp x σ H Q
theorem Out.all {α β ι : Type} {K : Frag} {σ : L2.St} {w : Wd} {Rel : Wd → β → α → Prop} {r : Res α} {T : ι → (β → Hp → Prop) → Prop} (h : ∀ i, Out K g W σ w Rel r (T i)) : Out K g W σ w Rel r fun Q => ∀ i, T i Q := by
  cases r with
  | ok a μ' => exact fun Q q i => h i Q q
  | exc c μ' => exact fun Q q i => h i Q q
  | bad => trivial
theorem evE_all {K : Frag} {t : PBk TE} {f : DE} (h : ∀ s H C cl fp, EvD K g W (t s H C cl fp) f) : EvD K g W (allE t) f := fun H0 sd μ w σ SS S =>
  Out.all fun s => Out.all fun H' => Out.all fun C => Out.all fun cl => Out.all fun fp => h s H' C cl fp H0 sd μ w σ SS S
theorem evT_all {K : Frag} {t : PBk TT} {f : DT} (h : ∀ s H C cl fp, EvT K g W (t s H C cl fp) f) : EvT K g W (allT t) f := fun H0 sd μ w σ SS S =>
  Out.all fun s => Out.all fun H' => Out.all fun C => Out.all fun cl => Out.all fun fp => h s H' C cl fp H0 sd μ w σ SS S
theorem PE.le {X : Cx} {e : Expr} {t u : TE} (h : PE X e t) (k : ∀ σ H Q, u σ H Q → t σ H Q) : PE X e u := ⟨fun pins s σ H Q I z => h.run pins s σ H Q I (k σ H Q z)⟩
abbrev BlkG (X : Cx) (g : G) (scope : Scope) (tg : Expr) (gt : PBk TG) (tgt : DG) (is : List Nat) : Prop := ∀ (s : Shared) (H : Hp) (C : Addr) (cl : List (Str × Addr)) (fp : List Addr), PGD (X.blk s H scope (compEnvC scope cl C X.env) fp) g tg (gt s H C cl fp) tgt is
abbrev BlkT (X : Cx) (g : G) (scope : Scope) (ifs : List Expr) (tt : PBk TT) (ft : DT) : Prop := ∀ (s : Shared) (H : Hp) (C : Addr) (cl : List (Str × Addr)) (fp : List Addr), PTsD (X.blk s H scope (compEnvC scope cl C X.env) fp) g W0 ifs (tt s H C cl fp) ft
abbrev BlkE (X : Cx) (g : G) (scope : Scope) (elt : Expr) (te : PBk TE) (fe : DE) : Prop := ∀ (s : Shared) (H : Hp) (C : Addr) (cl : List (Str × Addr)) (fp : List Addr), PED (X.blk s H scope (compEnvC scope cl C X.env) fp) g W0 elt (te s H C cl fp) fe
theorem BlkG.pg {X : Cx} {scope : Scope} {tg : Expr} {gt : PBk TG} {tgt : DG} {is : List Nat} (h : BlkG X g scope tg gt tgt is) (s : Shared) (H : Hp) (C : Addr) (cl : List (Str × Addr)) (fp : List Addr) : PG (X.blk s H scope (compEnvC scope cl C X.env) fp) tg (allG gt) :=
  ⟨fun pins s' σ H' v u Q I r z => (h s H C cl fp).pg.run pins s' σ H' v u Q I r (z s H C cl fp)⟩
theorem BlkT.pt {X : Cx} {scope : Scope} {ifs : List Expr} {tt : PBk TT} {ft : DT} (h : BlkT X g scope ifs tt ft) (s : Shared) (H : Hp) (C : Addr) (cl : List (Str × Addr)) (fp : List Addr) : PTs (X.blk s H scope (compEnvC scope cl C X.env) fp) ifs (allT tt) :=
  ⟨fun pins s' σ H' Q I z => (h s H C cl fp).pt.run pins s' σ H' Q I (z s H C cl fp)⟩
theorem BlkE.pe {X : Cx} {scope : Scope} {elt : Expr} {te : PBk TE} {fe : DE} (h : BlkE X g scope elt te fe) (s : Shared) (H : Hp) (C : Addr) (cl : List (Str × Addr)) (fp : List Addr) : PE (X.blk s H scope (compEnvC scope cl C X.env) fp) elt (allE te) :=
  ⟨fun pins s' σ H' Q I z => (h s H C cl fp).pe.run pins s' σ H' Q I (z s H C cl fp)⟩
theorem lc_ev {X : Cx} {tg iter elt : Expr} {ifs : List Expr} {scope : Scope} {wi : TI} {gt : PBk TG} {tt : PBk TT} {te : PBk TE} {is vs : List Nat} {fi : DI} {tgt : DG} {ft : DT} {fe : DE} (hi : PID X g W tg iter wi fi) (hg : BlkG X g scope tg gt tgt is) (ht : BlkT X g scope ifs tt ft) (he : BlkE X g scope elt te fe) (his : ∀ i ∈ is, i ∈ vs) :
    EvL X.K g W (tLc wi (allG gt) (allT tt) (allE te) vs) (dLc fi tgt ft fe vs) :=
  ev_lc hi.ev (fun H0 sd sd' w σ μ x d SS S r e Q q s H C cl fp => (hg s H C cl fp).ev H0 sd sd' w σ μ x d SS S r e Q q) his (evT_all fun s H C cl fp => (ht s H C cl fp).ev) (evE_all fun s H C cl fp => (he s H C cl fp).ev)
theorem l_lc {elt tg iter : Expr} {ifs : List Expr} {scope : Scope} {pos : Pos} {wi : TI} {gt : PBk TG} {tt : PBk TT} {te : PBk TE} {is vs : List Nat} {fi : DI} {tgt : DG} {ft : DT} {fe : DE} (own : List (Str × Nat)) (hN : X.N.Nodup) (hi : PID X g W tg iter wi fi) (ok : BlkOk X.N X.env.scope scope own)
    (hg : BlkG X g scope tg gt tgt is) (ht : BlkT X g scope ifs tt ft) (he : BlkE X g scope elt te fe) (hvs : own.map (·.2) = vs := by rfl) (his : ∀ i ∈ is, i ∈ vs := by decide) (hc : X.calm = true := by rfl) (hs : ∀ x, foldedSetIterable iter X.env x = pure x := by intro _; rfl) :
    PLD X g W (.ListComp elt [⟨tg, iter, ifs, 0⟩] scope pos) (tLc wi (allG gt) (allT tt) (allE te) vs) (dLc fi tgt ft fe vs) := by
  subst hvs
  exact ⟨pe_lc hc hN hi.pi ok hg.pg ht.pt he.pe hs, lc_ev hi hg ht he his⟩
end
end DL

set_option maxHeartbeats 4000000
/-! DLStmt: statements, loops, defs and their calls. -/
namespace DL
open PySem PySem.Spec PyProof.Rows L2
section
variable {X : Cx} {g : G} {W : WX} {a b c e : Expr} {ta tb tc te : TE} {fa fb fc fe : DE} {pos : Pos} {st : Stmt} {rest : List Stmt} {t u : TS} {f h : DS}
/-! ### blocks -/
theorem Out.wants {α β : Type} {K : Frag} {σ : L2.St} {w0 w : Wd} {Rel : Wd → β → α → Prop} {r : Res α} {T : (β → Hp → Prop) → Prop} {E : Ends} {Q : β → Hp → Prop} {k : α → Mu → Res Flw} (h : Out K g W σ w Rel r T) (l : Le w0 w) (q : Wants K g W w0 w E (r.bind k))
    (hk : ∀ a μ1 w1 x, Le w w1 → Sim K g w1 μ1 → Rel w1 x a → Wants K g W w0 w1 E (k a μ1) → Q x w1.H) : T Q := by
  cases r with
  | ok a μ1 => exact h Q fun w1 x l1 S1 r1 => hk a μ1 w1 x l1 S1 r1 (Wants.wk l1.wk q)
  | exc c μ1 => exact h Q fun w1 l1 S1 => q w1 σ (l.trans l1) l1.wk S1
  | bad => exact q.elim
def sNext : DS := fun sd μ => .ok (.next sd) μ
/-- then -/
def thenF (h : DS) : Flw → Mu → Res Flw := fun fl μ => match fl with
  | .next sd => h sd μ
  | .ret d => .ok (.ret d) μ
def sSeq (f h : DS) : DS := fun sd μ => (f sd μ).bind (thenF h)
theorem Wants.seq {K : Frag} {w0 w : Wd} {E E' : Ends} {r : Res Flw} {h : DS} (q : Wants K g W w0 w E (r.bind (thenF h))) (e : E'.rt = E.rt)
    (hn : ∀ sd' μ' w' σ', Le w0 w' → Wk w w' → SimS K w0.H w' sd' σ' → Sim K g w' μ' → Wants K g W w0 w' E (h sd' μ') → E'.nx σ' w'.H) : Wants K g W w0 w E' r := by
  match r, q with
  | .ok (.next sd') μ', q => exact fun w' σ' l k SS S => hn sd' μ' w' σ' l k SS S (Wants.wk k q)
  | .ok (.ret d) μ', q => exact fun w' v l k S r => by rw [e]; exact q w' v l k S r
  | .exc c μ', q => exact q
theorem ev_next {K : Frag} : EvS K g W tNext sNext := fun w0 sd μ w σ l SS S E q => q w σ l (.refl w) SS S
theorem ev_seq {K : Frag} (hf : EvS K g W t f) (hh : EvS K g W u h) : EvS K g W (tSeq t u) (sSeq f h) := fun w0 sd μ w σ l SS S E q =>
  hf w0 sd μ w σ l SS S _ (Wants.seq q rfl fun sd' μ' w' σ' l' k SS' S' q' => hh w0 sd' μ' w' σ' l' SS' S' E q')
theorem b_nil : PBD X g W [] tNext sNext := ⟨pss_nil, ev_next⟩
theorem b_cons (h1 : PSD X g W st t f) (h2 : PBD X g W rest u h) : PBD X g W (st :: rest) (tSeq t u) (sSeq f h) := ⟨pss_cons h1.ps h2.pss, ev_seq h1.ev h2.ev⟩
theorem b_one (h1 : PSD X g W st t f) : PBD X g W [st] t f := ⟨pss_one h1.ps, h1.ev⟩
/-- a list of the def's own is shared from now on: nothing is run -/
def sFreeze (i : Nat) (f : DS) : DS := fun sd μ => match sd[i]? with
  | some (some (.own xs)) => f (sd.set i (some (.v (.list xs)))) μ
  | _ => f sd μ
theorem ev_freeze {K : Frag} (i : Nat) (hf : EvS K g W t f) : EvS K g W t (sFreeze i f) := fun w0 sd μ w σ l SS S E q => by
  unfold sFreeze at q
  split at q
  · rename_i xs e
    obtain ⟨x, hx, a, vs, rfl, h0, hF, hn, hH, ra⟩ := SS.at_ i _ e
    -- the slot's list joins what stands for good
    have eF : Ex w.F (upd w.F a (.lst vs)) := Ex.new hF
    have wk : Wk w ⟨w.as, upd w.F a (.lst vs), w.H⟩ := ⟨.refl _, eF⟩
    refine hf w0 _ μ ⟨w.as, upd w.F a (.lst vs), w.H⟩ σ ⟨l.pre, l.ex.trans eF, fun b o hb => ?_, l.keep, l.news, l.mono⟩ ⟨by rw [List.length_set]; exact SS.len, fun j s ej => ?_, fun j k ys zs b e1 e2 e3 e4 => ?_⟩ ⟨fun b o hb => ?_, S.nd, S.len, fun k c ek => ?_⟩ E (Wants.wk wk q)
    · have hb : (upd w.F a (.lst vs)) b = some o := hb
      by_cases hp : b = a
      · exact .inr (by rw [hp]; exact h0)
      · rw [upd_ne hp] at hb; exact l.fresh b o hb
    · rcases get_set ej with ⟨rfl, e', _⟩ | ⟨hne, ej⟩
      · cases e'
        exact ⟨.ref a, hx, .lst upd_same (ra.wk wk)⟩
      · obtain ⟨y, hy, r⟩ := SS.at_ j s ej
        refine ⟨y, hy, ?_⟩
        cases s with
        | v d => exact Rp.wk wk r
        | own ys =>
          obtain ⟨b, us, rfl, k0, kF, kn, kH, rb⟩ := r
          have hab : b ≠ a := fun z => hne (SS.sep i j xs ys a e ej hx (by rw [← z]; exact hy))
          exact ⟨b, us, rfl, k0, (upd_ne hab).trans kF, kn, kH, rb.wk wk⟩
    · rcases get_set e1 with ⟨_, e', _⟩ | ⟨n1, e1⟩
      · cases e'
      · rcases get_set e2 with ⟨_, e', _⟩ | ⟨n2, e2⟩
        · cases e'
        · exact SS.sep j k ys zs b e1 e2 e3 e4
    · have hb : (upd w.F a (.lst vs)) b = some o := hb
      by_cases hp : b = a
      · subst hp; rw [upd_same] at hb; cases hb; exact hH
      · rw [upd_ne hp] at hb; exact S.sub b o hb
    · obtain ⟨b, e1, f1, x1⟩ := S.cell k c ek
      have hp : b ≠ a := fun z => hn (by rw [← z]; exact List.mem_of_getElem? e1)
      exact ⟨b, e1, (upd_ne hp).trans f1, Sim.cellMono (w := w) (.refl _) eF rfl x1⟩
  · exact hf w0 sd μ w σ l SS S E q
theorem b_freeze {i : Nat} (h1 : PBD X g W rest t f) : PBD X g W rest t (sFreeze i f) := ⟨h1.pss, ev_freeze i h1.ev⟩
theorem s_freeze {i : Nat} (h1 : PSD X g W st t f) : PSD X g W st t (sFreeze i f) := ⟨h1.ps, ev_freeze i h1.ev⟩

/-! ### what a right side gives: data, or a list of the def's own -/
abbrev DX := Slots → Mu → Res Sl
abbrev RelX (K : Frag) (w0 : Wd) : Wd → V → Sl → Prop := fun w x s => match s with
  | .v d => Rp K w.as w.F x d
  | .own ds => RelL K w0 w x ds
def EvX (K : Frag) (g : G) (W : WX) (te : TE) (f : DX) : Prop := ∀ (H0 : Hp) sd μ w σ, SimS K H0 w sd σ → Sim K g w μ → Out K g W σ w (RelX K w) (f sd μ) fun Q => te σ w.H Q
structure PXD (X : Cx) (g : G) (W : WX) (e : Expr) (te : TE) (f : DX) : Prop where
  pe : PE X e te
  ev : EvX X.K g W te f
def xV (f : DE) : DX := fun sd μ => match f sd μ with
  | .ok d μ' => .ok (.v d) μ'
  | .exc c μ' => .exc c μ'
  | .bad => .bad
def xO (f : DA) : DX := fun sd μ => match f sd μ with
  | .ok d μ' => .ok (.own d) μ'
  | .exc c μ' => .exc c μ'
  | .bad => .bad
theorem ev_xV {K : Frag} (he : EvD K g W te fe) : EvX K g W te (xV fe) := fun H0 sd μ w σ SS S => by
  have z := he H0 sd μ w σ SS S
  unfold xV
  cases e1 : fe sd μ with
  | ok d μ1 => rw [e1] at z; exact z
  | exc c μ1 => rw [e1] at z; exact z
  | bad => trivial
theorem ev_xO {K : Frag} {fl : DA} (he : EvL K g W te fl) : EvX K g W te (xO fl) := fun H0 sd μ w σ SS S => by
  have z := he H0 sd μ w σ SS S
  unfold xO
  cases e1 : fl sd μ with
  | ok d μ1 => rw [e1] at z; exact z
  | exc c μ1 => rw [e1] at z; exact z
  | bad => trivial
theorem x_v (he : PED X g W e te fe) : PXD X g W e te (xV fe) := ⟨he.pe, ev_xV he.ev⟩
theorem x_o {fl : DA} (he : PLD X g W e te fl) : PXD X g W e te (xO fl) := ⟨he.pe, ev_xO he.ev⟩
theorem RelX.put {K : Frag} {w0 w : Wd} {sd : Slots} {σ : L2.St} {x : V} {s : Sl} {wb : Wd} (l0 : Le w0 wb) (l : Le wb w) (SS : SimS K w0.H w sd σ) (SSb : SimS K w0.H wb sd σ) (i : Nat) (r : RelX K wb w x s) : SimS K w0.H w (sd.set i (some s)) (σ.set i (some x)) := by
  cases s with
  | v d => exact SS.setV i r
  | own ds =>
    obtain ⟨p, vs, rfl, h0, hF, hn, hH, ra⟩ := r
    refine SS.setO i ⟨p, vs, rfl, l0.mono p h0, hF, hn, hH, ra⟩ fun j ys ej hj => ?_
    obtain ⟨y, hy, a, us, rfl, _, _, _, kH, _⟩ := SSb.at_ j _ ej
    rw [hj] at hy
    cases hy
    rw [h0] at kH
    cases kH
def sAsg (i : Nat) (fx : DX) : DS := fun sd μ => (fx sd μ).bind fun s μ1 => .ok (.next (sd.set i (some s))) μ1
theorem ev_asg {K : Frag} {fx : DX} (i : Nat) (he : EvX K g W te fx) : EvS K g W (tAsg te (gName i)) (sAsg i fx) := fun w0 sd μ w σ l SS S E q =>
  Out.wants (he w0.H sd μ w σ SS S) l q fun s μ1 w1 x l1 S1 r q1 => q1 w1 _ (l.trans l1) (.refl _) (RelX.put l l1 (SS.le l1) SS i r) S1
theorem s_asg {i : Nat} {x : Str} {p : Pos} {fx : DX} (hN : X.N.Nodup) (he : PXD X g W e te fx) (hi : X.N[i]? = some x := by rfl) (hx : Loc X.env.scope x := by first | exact Or.inl rfl | exact Or.inr rfl) (hs : swapsWith e (some (.Name x p)) pos.line X.env = pure false := by rfl)
    (hf : X.fn x = true ∨ X.env.scope.names.lookup x = some .local := by first | exact .inl rfl | exact .inr rfl) : PSD X g W (.Assign [.Name x p] e pos) (tAsg te (gName i)) (sAsg i fx) := ⟨ps_set hN hi hx he.pe hs hf, ev_asg i he.ev⟩
/-- x = [..], x no name of the comprehension's -/
theorem s_asgLc {i : Nat} {vs : List Nat} (own : List (Str × Nat)) {y : Str} {py : Pos} {elt tg iter : Expr} {ifs : List Expr} {scope : Scope} {spos : Pos} {wi : TI} {gt : PBk TG} {tt : PBk TT} {te : PBk TE} {is : List Nat} {fi : DI} {tgt : DG} {ft : DT} {fe : DE} (hN : X.N.Nodup) (hi : PID X g W tg iter wi fi) (ok : BlkOk X.N X.env.scope scope own)
    (hg : BlkG X g scope tg gt tgt is) (ht : BlkT X g scope ifs tt ft) (he : BlkE X g scope elt te fe) (hvs : own.map (·.2) = vs := by rfl) (his : ∀ i ∈ is, i ∈ vs := by decide) (hc : X.calm = true := by rfl)
    (hy : X.N[i]? = some y := by rfl) (hyl : X.env.scope.names.lookup y = some .local := by rfl) (hsw : swapsWith (.ListComp elt [⟨tg, iter, ifs, 0⟩] scope pos) (some (.Name y py)) spos.line X.env = pure true := by exact sw_true rfl rfl rfl (by decide +kernel)) (hs : ∀ x, foldedSetIterable iter X.env x = pure x := by intro _; rfl) :
    PSD X g W (.Assign [.Name y py] (.ListComp elt [⟨tg, iter, ifs, 0⟩] scope pos) spos) (tAsg (tLc wi (allG gt) (allT tt) (allE te) vs) (gName i)) (sAsg i (xO (dLc fi tgt ft fe vs))) := by
  subst hvs
  exact ⟨ps_setLc hc hN hy hyl hsw hi.pi ok hg.pg ht.pt he.pe hs, ev_asg i (ev_xO (lc_ev hi hg ht he his))⟩
/-- a, b = a tuple that stands -/
def sUnp (gt : DG) (fe : DE) : DS := fun sd μ => (fe sd μ).bind fun d μ1 => match gt d sd with
  | some sd' => .ok (.next sd') μ1
  | none => .bad
theorem s_unp {tg : Expr} {gt : TG} {fg : DG} {is : List Nat} (he : PED X g W e te fe) (hg : PGD X g tg gt fg is) (hs : swapsWithSole [tg] e pos.line X.env = pure false := by rfl) (hw : swappedStores [tg] e X.env = pure none := by rfl) (h1 : (assignEach [tg] X.env).map (·.2) = [assign tg X.env] := by rfl) :
    PSD X g W (.Assign [tg] e pos) (tAsg te gt) (sUnp fg fe) := ⟨ps_asg he.pe hg.pg hs hw h1, fun w0 sd μ w σ l SS S E q => Out.wants (he.ev w0.H sd μ w σ SS S) l q fun d μ1 w1 x l1 S1 r q1 => by
    cases e2 : fg d sd with
    | none => rw [e2] at q1; exact q1.elim
    | some sd' =>
      rw [e2] at q1
      exact hg.ev w0.H sd sd' w1 σ μ1 x d (SS.le l1) S1 r e2 _ fun σ' SS' _ => q1 w1 σ' (l.trans l1) (.refl _) SS' S1⟩
/-- a list of three unpacked -/
def gLs (f : DGs) : DG := fun d sd => match d with
  | .list ds => f ds sd
  | _ => none
theorem g_lst {es : List Expr} {k : Nat} {tt : TGs} {f : DGs} {is : List Nat} {n : Nat} (h : PGDs X g es tt f is) (hl : ∀ ds sd sd', f ds sd = some sd' → ds.length = n) (hc : X.calm = true := by rfl) (hn : (assignEach es X.env).length = n := by rfl) (hst : (assignEach es X.env).findIdx? (·.1) = none := by rfl) :
    PGD X g (.Tuple es k pos) (gLst X.K n tt) (gLs f) is := ⟨pg_lst hc h.pg hn hst, fun H0 sd sd' w σ μ x d SS S r e Q q => by
  unfold gLs at e
  split at e
  · obtain ⟨a, vs, rfl, ha, ra⟩ := r.lstV
    exact ⟨a, vs, rfl, sqL_of (S.sub _ _ ha), by rw [ra.length]; exact hl _ _ _ e, h.ev H0 sd sd' w σ μ vs _ SS S ra e Q q⟩
  · cases e⟩
def g3L (i j k : Nat) : DG := fun d sd => match d with
  | .list [x, y, z] => some (((sd.set i (some (.v x))).set j (some (.v y))).set k (some (.v z)))
  | _ => none
theorem g_threeL {a b c : Expr} {ta tb tc : TG} {kk i j k : Nat} (ha : PGD X g a ta (gN i) [i]) (hb : PGD X g b tb (gN j) [j]) (hcc : PGD X g c tc (gN k) [k]) (hc : X.calm = true := by rfl) (hn : (assignEach [a, b, c] X.env).length = 3 := by rfl) (hst : (assignEach [a, b, c] X.env).findIdx? (·.1) = none := by rfl)
    (hs : (assignEach [a, b, c] X.env).map (·.2) = assign a X.env :: (assignEach [b, c] X.env).map (·.2) := by rfl) (hs2 : (assignEach [b, c] X.env).map (·.2) = assign b X.env :: (assignEach [c] X.env).map (·.2) := by rfl) (hs3 : (assignEach [c] X.env).map (·.2) = assign c X.env :: (assignEach [] X.env).map (·.2) := by rfl) :
    PGD X g (.Tuple [a, b, c] kk pos) (gLst X.K 3 (gCons ta (gCons tb (gCons tc gNil)))) (g3L i j k) [i, j, k] := by
  have z := g_lst (pos := pos) (k := kk) (n := 3) (gs_cons ha (gs_cons hb (gs_cons hcc gs_nil hs3) hs2) hs) (fun ds sd sd' e => by
    match ds, e with
    | [x, y, z], _ => rfl) hc hn hst
  refine ⟨z.pg, fun H0 sd sd' w σ μ x d SS S r e Q q => z.ev H0 sd sd' w σ μ x d SS S r ?_ Q q⟩
  unfold g3L at e
  split at e
  · cases e
    rfl
  · cases e
/-- a, b = e1, e2, both sides written -/
def sPar (i j : Nat) (f1 f2 : DX) : DS := fun sd μ => (f1 sd μ).bind fun s μ1 => (f2 sd μ1).bind fun r μ2 => .ok (.next ((sd.set i (some s)).set j (some r))) μ2
theorem RelX.le {K : Frag} {w0 w w' : Wd} {x : V} {s : Sl} (l : Le w w') (r : RelX K w0 w x s) : RelX K w0 w' x s := by
  cases s with
  | v d => exact Rp.le l r
  | own ds =>
    obtain ⟨p, vs, rfl, h0, hF, hn, hH, ra⟩ := r
    refine ⟨p, vs, rfl, h0, ?_, fun z => ?_, l.keep p _ hH hn, ra.le l⟩
    · cases q : w'.F p with
      | none => rfl
      | some o =>
        rcases l.fresh p o q with z | z
        · rw [hF] at z; cases z
        · rw [hH] at z; cases z
    · rcases l.news p z with z | z
      · exact hn z
      · rw [hH] at z; cases z
theorem RelX.back {K : Frag} {w0 w1 w : Wd} {x : V} {s : Sl} (l : Le w0 w1) (r : RelX K w1 w x s) : RelX K w0 w x s := by
  cases s with
  | v d => exact r
  | own ds => exact RelL.back l r
/-- both values in hand -/
theorem par_ev {K : Frag} {f1 f2 : DX} (h1 : EvX K g W ta f1) (h2 : EvX K g W tb f2) (i j : Nat) {w0 : Wd} {sd : Slots} {μ : Mu} {w : Wd} {σ : L2.St} (l : Le w0 w) (SS : SimS K w0.H w sd σ) (S : Sim K g w μ) {E : Ends} (q : Wants K g W w0 w E (sPar i j f1 f2 sd μ)) (R : V → V → Hp → Prop)
    (hR : ∀ w' x y, Le w w' → ∀ μ', Sim K g w' μ' → (∀ w'', Le w' w'' → Sim K g w'' μ' → E.nx ((σ.set i (some x)).set j (some y)) w''.H) → R x y w'.H) : ta σ w.H fun x H1 => tb σ H1 fun y H2 => R x y H2 :=
  Out.wants (h1 w0.H sd μ w σ SS S) l q fun s μ1 w1 x l1 S1 rx q1 => Out.wants (h2 w0.H sd μ1 w1 σ (SS.le l1) S1) (l.trans l1) q1 fun r μ2 w2 y l2 S2 ry q2 => by
    refine hR w2 x y (l1.trans l2) μ2 S2 fun w3 l3 S3 => ?_
    have SS2 := SS.le (l1.trans l2)
    have A1 : SimS K w0.H w2 (sd.set i (some s)) (σ.set i (some x)) := RelX.put l (l1.trans l2) SS2 SS i (RelX.le l2 rx)
    have A0 : SimS K w0.H w1 (sd.set i (some s)) (σ.set i (some x)) := RelX.put l l1 (SS.le l1) SS i rx
    exact q2 w3 _ (((l.trans l1).trans l2).trans l3) l3.wk ((RelX.put (l.trans l1) l2 A1 A0 j ry).le l3) S3
theorem s_par {i j : Nat} {x y : Str} {px py pt pt2 : Pos} {kt k2 : Nat} {f1 f2 : DX} (hN : X.N.Nodup) (h1 : PXD X g W a ta f1) (h2 : PXD X g W b tb f2) (hc : X.calm = true := by rfl) (hi : X.N[i]? = some x := by rfl) (hj : X.N[j]? = some y := by rfl) (hij : i ≠ j := by decide)
    (hx : X.env.scope.names.lookup x = some .local := by rfl) (hy : X.env.scope.names.lookup y = some .local := by rfl) (hw : swappedStores [.Tuple [.Name x px, .Name y py] kt pt] (.Tuple [a, b] k2 pt2) X.env = pure (some [x, y]) := by rfl)
    (hs : swapsWithSole [.Tuple [.Name x px, .Name y py] kt pt] (.Tuple [a, b] k2 pt2) pos.line X.env = pure false := by rfl) (hst : starEach [a, b] X.env = (false, eval a X.env) :: starEach [b] X.env := by rfl) (hst2 : starEach [b] X.env = (false, eval b X.env) :: starEach [] X.env := by rfl) :
    PSD X g W (.Assign [.Tuple [.Name x px, .Name y py] kt pt] (.Tuple [a, b] k2 pt2) pos) (tPar i j (tCons ta (tCons tb tNil))) (sPar i j f1 f2) := ⟨ps_par hc hN hi hj hij hx hy (pa_cons h1.pe (pa_cons h2.pe pa_nil hst2) hst) hw hs, fun w0 sd μ w σ l SS S E q =>
    par_ev h1.ev h2.ev i j l SS S q (fun x y H2 => ∃ v w, [x, y] = [v, w] ∧ E.nx ((σ.set i (some v)).set j (some w)) H2) fun w' x y l' μ' S' k => ⟨x, y, rfl, k w' (.refl _) S'⟩⟩
/-- .. where a tuple is made and taken apart (a name is captured) -/
theorem s_parT {i j : Nat} {x y : Str} {px py pt pt2 : Pos} {kt k2 : Nat} {f1 f2 : DX} (hN : X.N.Nodup) (h1 : PXD X g W a ta f1) (h2 : PXD X g W b tb f2) (hc : X.calm = true := by rfl) (hi : X.N[i]? = some x := by rfl) (hj : X.N[j]? = some y := by rfl) (hij : i ≠ j := by decide)
    (hx : Loc X.env.scope x := by first | exact Or.inl rfl | exact Or.inr rfl) (hy : Loc X.env.scope y := by first | exact Or.inl rfl | exact Or.inr rfl) (hfx : X.fn x = true ∨ X.env.scope.names.lookup x = some .local := by first | exact .inl rfl | exact .inr rfl) (hfy : X.fn y = true ∨ X.env.scope.names.lookup y = some .local := by first | exact .inl rfl | exact .inr rfl)
    (hw : swappedStores [.Tuple [.Name x px, .Name y py] kt pt] (.Tuple [a, b] k2 pt2) X.env = pure none := by rfl)
    (hs : swapsWithSole [.Tuple [.Name x px, .Name y py] kt pt] (.Tuple [a, b] k2 pt2) pos.line X.env = pure false := by rfl) (hst : starEach [a, b] X.env = (false, eval a X.env) :: starEach [b] X.env := by rfl) (hst2 : starEach [b] X.env = (false, eval b X.env) :: starEach [] X.env := by rfl)
    (hn : (assignEach [.Name x px, .Name y py] X.env).length = 2 := by rfl) (hfi : (assignEach [.Name x px, .Name y py] X.env).findIdx? (·.1) = none := by rfl) (hg1 : (assignEach [.Name x px, .Name y py] X.env).map (·.2) = assign (.Name x px) X.env :: (assignEach [.Name y py] X.env).map (·.2) := by rfl)
    (hg2 : (assignEach [.Name y py] X.env).map (·.2) = assign (.Name y py) X.env :: (assignEach [] X.env).map (·.2) := by rfl) (h1a : (assignEach [.Tuple [.Name x px, .Name y py] kt pt] X.env).map (·.2) = [assign (.Tuple [.Name x px, .Name y py] kt pt) X.env] := by rfl) :
    PSD X g W (.Assign [.Tuple [.Name x px, .Name y py] kt pt] (.Tuple [a, b] k2 pt2) pos) (tAsg (tTup (tCons ta (tCons tb tNil))) (gTup X.K 2 (gCons (gName i) (gCons (gName j) gNil)))) (sPar i j f1 f2) :=
  ⟨ps_asg (pe_tup (pa_cons h1.pe (pa_cons h2.pe pa_nil hst2) hst)) (pg_tup hc (pgs_cons (pg_name hN hi hx hfx) (pgs_cons (pg_name hN hj hy hfy) pgs_nil hg2) hg1) hn hfi) hs hw h1a, fun w0 sd μ w σ l SS S E q =>
    par_ev h1.ev h2.ev i j l SS S q (fun x y H2 => [x, y].length ≤ sizeLine ∧ ∀ p, H2 p = none → gTup X.K 2 (gCons (gName i) (gCons (gName j) gNil)) (.ref p) σ (upd H2 p (.tup [x, y])) E.nx) fun w' x y l' μ' S' k =>
      ⟨by show 2 ≤ sizeLine; decide, fun p hp => ⟨p, [x, y], rfl, .inl (.inl upd_same), rfl, x, [y], rfl, y, [], rfl, rfl, k (w'.lay p (.tup [x, y])) (S'.layLe hp) (S'.lay (S'.sub.none hp) (S'.notas hp))⟩⟩⟩

/-! ### return, if, an expression alone -/
def sRet (fe : DE) : DS := fun sd μ => (fe sd μ).bind fun d μ1 => .ok (.ret d) μ1
theorem s_ret (he : PED X g W e te fe) : PSD X g W (.Return (some e) pos) (tRet te) (sRet fe) := ⟨ps_ret he.pe, fun w0 sd μ w σ l SS S E q =>
    Out.wants (he.ev w0.H sd μ w σ SS S) l q fun d μ1 w1 x l1 S1 r q1 => q1 w1 x (l.trans l1) (.refl _) S1 r⟩
def sDrop (fe : DE) : DS := fun sd μ => (fe sd μ).bind fun _ μ1 => .ok (.next sd) μ1
theorem s_expr (he : PED X g W e te fe) (hs : swapsWith e none pos.line X.env = pure false := by rfl) : PSD X g W (.Expr e pos) (tDrop te) (sDrop fe) := ⟨ps_expr he.pe hs, fun w0 sd μ w σ l SS S E q =>
    Out.wants (he.ev w0.H sd μ w σ SS S) l q fun d μ1 w1 x l1 S1 r q1 => q1 w1 σ (l.trans l1) (.refl _) (SS.le l1) S1⟩
def sIf (ft : DT) (f h : DS) : DS := fun sd μ => (ft sd μ).bind fun b μ1 => if b = true then f sd μ1 else h sd μ1
theorem ev_ifs {K : Frag} {tt : TT} {ft : DT} (hc : EvT K g W tt ft) (hf : EvS K g W t f) (hh : EvS K g W u h) : EvS K g W (tIfS tt t u) (sIf ft f h) := fun w0 sd μ w σ l SS S E q =>
  Out.wants (hc w0.H sd μ w σ SS S) l q fun b μ1 w1 x l1 S1 eb q1 => by
    subst eb
    cases x with
    | true => exact iteT (hf w0 sd μ1 w1 σ (l.trans l1) (SS.le l1) S1 E q1)
    | false => exact iteF (hh w0 sd μ1 w1 σ (l.trans l1) (SS.le l1) S1 E q1)
theorem s_if {tt : TT} {ft : DT} {bs cs : List Stmt} (hc : PTD X g W c tt ft) (hf : PBD X g W bs t f) (hh : PBD X g W cs u h) : PSD X g W (.If c bs cs pos) (tIfS tt t u) (sIf ft f h) := ⟨ps_if hc.pt hf.pss hh.pss, ev_ifs hc.ev hf.ev hh.ev⟩

/-! ### for, while -/
def forLoop (tgt : DG) (fb : DS) : List D → DS
  | [], sd, μ => .ok (.next sd) μ
  | d :: ds, sd, μ => match tgt d sd with
    | none => .bad
    | some sd1 => (fb sd1 μ).bind (thenF (forLoop tgt fb ds))
def sFor (fi : DI) (tgt : DG) (fb : DS) : DS := fun sd μ => (fi sd μ).bind fun ds μ1 => forLoop tgt fb ds sd μ1
theorem ev_for {K : Frag} {wi : TI} {gt : TG} {tb : TS} {is : List Nat} {fi : DI} {tgt : DG} {fb : DS} (hi : EvI K g W wi fi)
    (hg : ∀ (H0 : Hp) sd sd' w σ μ x d, SimS K H0 w sd σ → Sim K g w μ → Rp K w.as w.F x d → tgt d sd = some sd' → ∀ Q : L2.St → Hp → Prop, (∀ σ', SimS K H0 w sd' σ' → SameBut is σ σ' → Q σ' w.H) → gt x σ w.H Q)
    (hb : EvS K g W tb fb) : EvS K g W (tFor wi gt tb) (sFor fi tgt fb) := fun w0 sd μ w σ l SS S E q =>
  Out.wants (hi w0.H sd μ w σ SS S) l q fun ds μ1 w1 J l1 S1 wk q1 => by
    let Pv : Nat → L2.St → Hp → Prop := fun i σ' H => ∃ w' sdi μi, w'.H = H ∧ Le w0 w' ∧ Wk w1 w' ∧ SimS K w0.H w' sdi σ' ∧ Sim K g w' μi ∧ Wants K g W w0 w' E (forLoop tgt fb (ds.drop i) sdi μi)
    refine ⟨fun i m σ' H => m = ds.length - i ∧ i ≤ ds.length ∧ Pv i σ' H, ⟨ds.length, by simp, Nat.zero_le _, w1, sd, μ1, rfl, l.trans l1, .refl _, SS.le l1, S1, q1⟩, ?_⟩
    rintro i m σ' H ⟨rfl, hle, w', sdi, μi, rfl, l', k', SS', S', q'⟩
    by_cases hlt : i < ds.length
    · refine .inr ⟨wk.go i w' k' S'.sub hlt, Pv (i + 1), fun σ' H' p' => ⟨ds.length - (i + 1), by omega, rfl, hlt, p'⟩, fun x H' hy => ?_⟩
      obtain ⟨w2, rfl, l2, S2, r2⟩ := wk.yld i w' μi x H' ds[i] k' S' (lt_get hlt) hy
      rw [List.drop_eq_getElem_cons hlt] at q'
      unfold forLoop at q'
      cases eT : tgt ds[i] sdi with
      | none => rw [eT] at q'; exact q'.elim
      | some sd1 =>
        rw [eT] at q'
        refine hg w0.H sdi sd1 w2 σ' μi x ds[i] (SS'.le l2) S2 r2 eT _ fun σ2 SS2 _ => hb w0 sd1 μi w2 σ2 (l'.trans l2) SS2 S2 _ (Wants.seq (Wants.wk l2.wk q') rfl fun sd3 μ3 w3 σ3 l3 k3 SS3 S3 q3 => ?_)
        exact ⟨w3, sd3, μ3, rfl, l3, (k'.trans l2.wk).trans k3, SS3, S3, q3⟩
    · have e : i = ds.length := by omega
      subst e
      rw [List.drop_length] at q'
      exact .inl ⟨wk.stop w' k' S'.sub, q' w' σ' l' (.refl _) SS' S'⟩
/-- while, so many turns at most -/
def whLoop (ft : DT) (fb : DS) : Nat → DS
  | 0, _, _ => .bad
  | n + 1, sd, μ => (ft sd μ).bind fun b μ1 => if b = true then (fb sd μ1).bind (thenF (whLoop ft fb n)) else .ok (.next sd) μ1
theorem ev_while {K : Frag} {tt : TT} {tb : TS} {ft : DT} {fb : DS} (n : Nat) (hc : EvT K g W tt ft) (hb : EvS K g W tb fb) : EvS K g W (tWhile tt tb) (whLoop ft fb n) := fun w0 sd μ w σ l SS S E q => by
  refine ⟨fun m σ' H => ∃ w' sdi μi, w'.H = H ∧ Le w0 w' ∧ SimS K w0.H w' sdi σ' ∧ Sim K g w' μi ∧ Wants K g W w0 w' E (whLoop ft fb m sdi μi), ⟨n, w, sd, μ, rfl, l, SS, S, q⟩, ?_⟩
  rintro m σ' H ⟨w', sdi, μi, rfl, l', SS', S', q'⟩
  cases m with
  | zero => exact q'.elim
  | succ m =>
    unfold whLoop at q'
    refine Out.wants (hc w0.H sdi μi w' σ' SS' S') l' q' fun b μ1 w1 x l1 S1 eb q1 => ?_
    subst eb
    cases x with
    | false => exact iteF (q1 w1 σ' (l'.trans l1) (.refl _) (SS'.le l1) S1)
    | true =>
      refine iteT ⟨fun σ2 H2 => ∃ w' sdi μi, w'.H = H2 ∧ Le w0 w' ∧ SimS K w0.H w' sdi σ2 ∧ Sim K g w' μi ∧ Wants K g W w0 w' E (whLoop ft fb m sdi μi), fun σ2 H2 p => ⟨m, Nat.lt_succ_self _, p⟩, ?_⟩
      exact hb w0 sdi μ1 w1 σ' (l'.trans l1) (SS'.le l1) S1 _ (Wants.seq q1 rfl fun sd3 μ3 w3 σ3 l3 k3 SS3 S3 q3 => ⟨w3, sd3, μ3, rfl, l3, SS3, S3, q3⟩)
end
end DL

set_option maxHeartbeats 4000000
/-! DLFun: lists written, errors raised, defs and their calls. -/
namespace DL
open PySem PySem.Spec PyProof.Rows L2
section
variable {X : Cx} {g : G} {W : WX} {a b c e : Expr} {ta tb tc te : TE} {fa fb fc fe : DE} {pos : Pos} {st : Stmt} {rest : List Stmt} {t u : TS} {f h : DS}
theorem s_for {tg iter : Expr} {body : List Stmt} {wi : TI} {gt : TG} {tb : TS} {is : List Nat} {fi : DI} {tgt : DG} {fb : DS} (hp : PassesOwn (model X.prog X.w) X.A X.env X.xe) (hi : PID X g W tg iter wi fi) (hg : PGD X g tg gt tgt is) (hb : PBD X g W body tb fb) (hc : X.calm = true := by rfl)
    (hs : ∀ x, foldedSetIterable iter X.env x = pure x := by intro _; rfl) : PSD X g W (.For tg iter body [] pos) (tFor wi gt tb) (sFor fi tgt fb) := ⟨ps_for hp hc hi.pi hg.pg hb.pss hs, ev_for hi.ev hg.ev hb.ev⟩
theorem s_while {n : Nat} {tt : TT} {body : List Stmt} {tb : TS} {ft : DT} {fb : DS} (hp : PassesOwn (model X.prog X.w) X.A X.env X.xe) (hc : PTD X g W c tt ft) (hb : PBD X g W body tb fb) : PSD X g W (.While c body [] pos) (tWhile tt tb) (whLoop ft fb n) := ⟨ps_while hp hc.pt hb.pss, ev_while n hc.ev hb.ev⟩

/-! ### a list of the def's own is written -/
theorem own_write {K : Frag} {w0 w : Wd} {sd : Slots} {σ : L2.St} {μ : Mu} {i : Nat} {xs : List D} (l : Le w0 w) (SS : SimS K w0.H w sd σ) (S : Sim K g w μ) (e : sd[i]? = some (some (.own xs))) :
    ∃ p vs, σ[i]? = some (some (.ref p)) ∧ w.H p = some (.lst vs) ∧ RpA K w.as w.F vs xs ∧ ∀ vs' ys, RpA K w.as w.F vs' ys → Le w0 (w.lay p (.lst vs')) ∧ Wk w (w.lay p (.lst vs')) ∧ SimS K w0.H (w.lay p (.lst vs')) (sd.set i (some (.own ys))) σ ∧ Sim K g (w.lay p (.lst vs')) μ := by
  obtain ⟨x, hx, p, vs, rfl, h0, hF, hn, hH, ra⟩ := SS.at_ i _ e
  refine ⟨p, vs, hx, hH, ra, fun vs' ys ra' => ⟨⟨l.pre, l.ex, l.fresh, fun b o hb nb => ?_, l.news, fun b hb => ?_⟩, ⟨.refl _, .refl _⟩, ⟨by rw [List.length_set]; exact SS.len, fun j s ej => ?_, fun j k ys' zs b e1 e2 e3 e4 => ?_⟩, S.lay hF hn⟩⟩
  · show (upd w.H p (.lst vs')) b = some o
    rw [upd_ne (ne_of_none hb h0)]
    exact l.keep b o hb nb
  · have hb : (upd w.H p (.lst vs')) b = none := hb
    by_cases hp : b = p
    · subst hp; rw [upd_same] at hb; cases hb
    · rw [upd_ne hp] at hb; exact l.mono b hb
  · rcases get_set ej with ⟨rfl, e', _⟩ | ⟨hne, ej⟩
    · cases e'
      exact ⟨.ref p, hx, p, vs', rfl, h0, hF, hn, upd_same, ra'⟩
    · obtain ⟨y, hy, r⟩ := SS.at_ j s ej
      refine ⟨y, hy, ?_⟩
      cases s with
      | v d => exact r
      | own zs =>
        obtain ⟨b, us, rfl, k0, kF, kn, kH, rb⟩ := r
        have hab : b ≠ p := fun z => hne (SS.sep i j xs zs p e ej hx (by rw [← z]; exact hy))
        exact ⟨b, us, rfl, k0, kF, kn, (upd_ne hab).trans kH, rb⟩
  · have e1' : ∃ ys, sd[j]? = some (some (.own ys)) := by
      rcases get_set e1 with ⟨rfl, _, _⟩ | ⟨_, z⟩
      · exact ⟨_, e⟩
      · exact ⟨_, z⟩
    have e2' : ∃ ys, sd[k]? = some (some (.own ys)) := by
      rcases get_set e2 with ⟨rfl, _, _⟩ | ⟨_, z⟩
      · exact ⟨_, e⟩
      · exact ⟨_, z⟩
    obtain ⟨_, e1'⟩ := e1'
    obtain ⟨_, e2'⟩ := e2'
    exact SS.sep j k _ _ b e1' e2' e3 e4
theorem tOne {te : TE} {σ : L2.St} {H : Hp} {Q : List V → Hp → Prop} (h : te σ H fun x H1 => Q [x] H1) : tCons te tNil σ H Q := h
/-- x.append(e) -/
def sApp (i : Nat) (fe : DE) : DS := fun sd μ => match sd[i]? with
  | some (some (.own xs)) => (fe sd μ).bind fun d μ1 => if xs.length < sizeLine then .ok (.next (sd.set i (some (.own (xs ++ [d]))))) μ1 else .bad
  | _ => .bad
/-- x.extend(e) -/
def sExt (i : Nat) (fx : DX) : DS := fun sd μ => match sd[i]? with
  | some (some (.own xs)) => (fx sd μ).bind fun s μ1 => match s with
    | .own ys => if xs.length + ys.length ≤ sizeLine then .ok (.next (sd.set i (some (.own (xs ++ ys))))) μ1 else .bad
    | .v (.list ys) => if xs.length + ys.length ≤ sizeLine then .ok (.next (sd.set i (some (.own (xs ++ ys))))) μ1 else .bad
    | _ => .bad
  | _ => .bad
theorem isL {K : Frag} {p : Addr} {vs : List V} {H : Hp} (h : H p = some (.lst vs)) : tyV K "list" (.ref p) H := .inl ⟨rfl, _, .inl (.inl h)⟩
theorem s_app {i : Nat} {o : Expr} {apos cpos : Pos} (ho : PED X g W o (tVar i) (dVar i)) (he : PED X g W e te fe)
    (bm : PE X o (tVar i) → PA X [e] (tCons te tNil) → PE X (.Call (.Attribute o "append" apos) [e] [] cpos) (tBM X.K "list" rAppend (tVar i) (tCons te tNil)) := by exact fun ho ha => pe_bm PySem.F.plainAttrs_list PySem.F.slot_list_append PySem.F.type_list_append mt_append ho ha)
    (hst : starEach [e] X.env = (false, eval e X.env) :: starEach [] X.env := by rfl) (hs : swapsWith (.Call (.Attribute o "append" apos) [e] [] cpos) none pos.line X.env = pure false := by rfl) :
    PSD X g W (.Expr (.Call (.Attribute o "append" apos) [e] [] cpos) pos) (tDrop (tBM X.K "list" rAppend (tVar i) (tCons te tNil))) (sApp i fe) := by
  refine ⟨ps_expr (bm ho.pe (pa_cons he.pe pa_nil hst)) hs, fun w0 sd μ w σ l SS S E q => ?_⟩
  unfold sApp at q
  split at q
  · rename_i xs e1
    obtain ⟨p, vs, hx, hH, _, _⟩ := own_write l SS S e1
    refine ⟨.ref p, hx, isL hH, tOne (Out.wants (he.ev w0.H sd μ w σ SS S) l q fun d μ1 w1 y l1 S1 ry q1 => ?_)⟩
    obtain ⟨p', vs1, hx', hH1, ra, k⟩ := own_write (l.trans l1) (SS.le l1) S1 e1
    rw [hx] at hx'
    cases hx'
    by_cases hz : xs.length < sizeLine
    · rw [if_pos hz] at q1
      obtain ⟨k1, k2, k3, k4⟩ := k (vs1 ++ [y]) (xs ++ [d]) (ra.append (.one ry))
      exact ⟨p, vs1, y, rfl, rfl, hH1, by rw [ra.length]; exact hz, q1 _ σ k1 k2 k3 k4⟩
    · rw [if_neg hz] at q1
      exact q1.elim
  · exact q.elim
theorem s_ext {i : Nat} {o : Expr} {apos cpos : Pos} {fx : DX} (ho : PED X g W o (tVar i) (dVar i)) (he : PXD X g W e te fx)
    (bm : PE X o (tVar i) → PA X [e] (tCons te tNil) → PE X (.Call (.Attribute o "extend" apos) [e] [] cpos) (tBM X.K "list" rExtend (tVar i) (tCons te tNil)) := by exact fun ho ha => pe_bm PySem.F.plainAttrs_list PySem.F.slot_list_extend PySem.F.type_list_extend mt_extend ho ha)
    (hst : starEach [e] X.env = (false, eval e X.env) :: starEach [] X.env := by rfl) (hs : swapsWith (.Call (.Attribute o "extend" apos) [e] [] cpos) none pos.line X.env = pure false := by rfl) :
    PSD X g W (.Expr (.Call (.Attribute o "extend" apos) [e] [] cpos) pos) (tDrop (tBM X.K "list" rExtend (tVar i) (tCons te tNil))) (sExt i fx) := by
  refine ⟨ps_expr (bm ho.pe (pa_cons he.pe pa_nil hst)) hs, fun w0 sd μ w σ l SS S E q => ?_⟩
  unfold sExt at q
  split at q
  · rename_i xs e1
    obtain ⟨p, vs, hx, hH, _, _⟩ := own_write l SS S e1
    refine ⟨.ref p, hx, isL hH, tOne (Out.wants (he.ev w0.H sd μ w σ SS S) l q fun d μ1 w1 y l1 S1 ry q1 => ?_)⟩
    obtain ⟨p', vs1, hx', hH1, ra, k⟩ := own_write (l.trans l1) (SS.le l1) S1 e1
    rw [hx] at hx'
    cases hx'
    split at q1
    · rename_i ys
      obtain ⟨b, us, rfl, h0, hF, hn, hB, rb⟩ := ry
      by_cases hz : xs.length + ys.length ≤ sizeLine
      · rw [if_pos hz] at q1
        obtain ⟨k1, k2, k3, k4⟩ := k (vs1 ++ us) (xs ++ ys) (ra.append rb)
        exact ⟨p, b, vs1, us, rfl, rfl, hH1, hB, by rw [ra.length, rb.length]; exact hz, q1 _ σ k1 k2 k3 k4⟩
      · rw [if_neg hz] at q1
        exact q1.elim
    · rename_i ys
      obtain ⟨b, us, rfl, hb, rb⟩ := Rp.lstV ry
      have hB := S1.sub _ _ hb
      by_cases hz : xs.length + ys.length ≤ sizeLine
      · rw [if_pos hz] at q1
        obtain ⟨k1, k2, k3, k4⟩ := k (vs1 ++ us) (xs ++ ys) (ra.append rb)
        exact ⟨p, b, vs1, us, rfl, rfl, hH1, hB, by rw [ra.length, rb.length]; exact hz, q1 _ σ k1 k2 k3 k4⟩
      · rw [if_neg hz] at q1
        exact q1.elim
    · exact q1.elim
  · exact q.elim
/-! ### a cell is written -/
theorem cell_write {K : Frag} {w : Wd} {μ : Mu} {k : Nat} {cc : Cell} (S : Sim K g w μ) (e : μ[k]? = some cc) : ∃ a, w.as[k]? = some a ∧ w.F a = none ∧ CellAt K g w a cc ∧ ∀ o c', CellAt K g (w.lay a o) a c' → Le w (w.lay a o) ∧ Sim K g (w.lay a o) (μ.set k c') := by
  obtain ⟨a, ea, hF, ca⟩ := S.cell k cc e
  refine ⟨a, ea, hF, ca, fun o c' hc => ⟨⟨.refl _, .refl _, fun _ _ h => .inl h, fun b u hb nb => ?_, fun _ h => .inl h, fun b hb => ?_⟩, ⟨fun b u hb => ?_, S.nd, by rw [List.length_set]; exact S.len, fun j c ej => ?_⟩⟩⟩
  · show (upd w.H a o) b = some u
    rw [upd_ne (fun z => nb (by rw [z]; exact List.mem_of_getElem? ea))]
    exact hb
  · have hb : (upd w.H a o) b = none := hb
    by_cases hp : b = a
    · subst hp; rw [upd_same] at hb; cases hb
    · rw [upd_ne hp] at hb; exact hb
  · show (upd w.H a o) b = some u
    rw [upd_ne (ne_of_none hb hF)]
    exact S.sub b u hb
  · rcases get_set ej with ⟨rfl, e', _⟩ | ⟨hne, ej⟩
    · subst e'
      exact ⟨a, ea, hF, hc⟩
    · obtain ⟨b, eb, hFb, cb⟩ := S.cell j c ej
      have hab : b ≠ a := fun z => hne (S.nd j k a (by rw [← z]; exact eb) ea).symm
      exact ⟨b, eb, hFb, Sim.cellMono (w := w) (.refl _) (.refl _) (upd_ne hab) cb⟩
/-- x.append(e), x a list that the store keeps -/
def sAppT (i : Nat) (fe : DE) : DS := fun sd μ => match sd[i]? with
  | some (some (.v (.dict [(.none, .int k)]))) => match μ[k.toNat]? with
    | some (.lst _) => (fe sd μ).bind fun d μ1 => match μ1[k.toNat]? with
      | some (.lst xs) => if xs.length < sizeLine then .ok (.next sd) (μ1.set k.toNat (.lst (xs ++ [d]))) else .bad
      | _ => .bad
    | _ => .bad
  | _ => .bad
theorem Rp.tokI {K : Frag} {as : List Addr} {F : Hp} {v : V} {k : Int} (r : Rp K as F v (.dict [(.none, .int k)])) : ∃ a, v = .ref a ∧ as[k.toNat]? = some a := by
  cases r with
  | tok h => exact ⟨_, rfl, by simpa using h⟩
theorem s_appT {i : Nat} {o : Expr} {apos cpos : Pos} (ho : PED X g W o (tVar i) (dVar i)) (he : PED X g W e te fe)
    (bm : PE X o (tVar i) → PA X [e] (tCons te tNil) → PE X (.Call (.Attribute o "append" apos) [e] [] cpos) (tBM X.K "list" rAppend (tVar i) (tCons te tNil)) := by exact fun ho ha => pe_bm PySem.F.plainAttrs_list PySem.F.slot_list_append PySem.F.type_list_append mt_append ho ha)
    (hst : starEach [e] X.env = (false, eval e X.env) :: starEach [] X.env := by rfl) (hs : swapsWith (.Call (.Attribute o "append" apos) [e] [] cpos) none pos.line X.env = pure false := by rfl) :
    PSD X g W (.Expr (.Call (.Attribute o "append" apos) [e] [] cpos) pos) (tDrop (tBM X.K "list" rAppend (tVar i) (tCons te tNil))) (sAppT i fe) := by
  refine ⟨ps_expr (bm ho.pe (pa_cons he.pe pa_nil hst)) hs, fun w0 sd μ w σ l SS S E q => ?_⟩
  unfold sAppT at q
  split at q
  · rename_i k e1
    obtain ⟨x, hx, rx⟩ := SS.at_ i _ e1
    obtain ⟨a, rfl, ea⟩ := Rp.tokI rx
    split at q
    · rename_i xs0 e0
      obtain ⟨a0, ea0, _, ⟨vs0, hH0, _⟩⟩ := S.cell _ _ e0
      rw [ea] at ea0
      cases ea0
      refine ⟨.ref a, hx, isL hH0, tOne (Out.wants (he.ev w0.H sd μ w σ SS S) l q fun d μ1 w1 y l1 S1 ry q1 => ?_)⟩
      split at q1
      · rename_i xs e2
        obtain ⟨a', ea', hF, ⟨vs, hH, ra⟩, kk⟩ := cell_write S1 e2
        rw [l1.pre _ _ ea] at ea'
        cases ea'
        by_cases hz : xs.length < sizeLine
        · rw [if_pos hz] at q1
          obtain ⟨k1, k2⟩ := kk (.lst (vs ++ [y])) (.lst (xs ++ [d])) ⟨vs ++ [y], upd_same, ra.append (.one ry)⟩
          exact ⟨a, vs, y, rfl, rfl, hH, by rw [ra.length]; exact hz, q1 _ σ ((l.trans l1).trans k1) k1.wk ((SS.le l1).le k1) k2⟩
        · rw [if_neg hz] at q1
          exact q1.elim
      · exact q1.elim
    · exact q.elim
  · exact q.elim
/-! ### a list becomes a cell of the store: nothing is run -/
/-- slot i, a list of the def's own, is kept by the store from now on -/
def sKeep (i : Nat) (f : DS) : DS := fun sd μ => match sd[i]? with
  | some (some (.own xs)) => f (sd.set i (some (.v (tok μ.length)))) (μ ++ [.lst xs])
  | _ => .bad
theorem ev_keep {K : Frag} (i : Nat) (hf : EvS K g W t f) : EvS K g W t (sKeep i f) := fun w0 sd μ w σ l SS S E q => by
  unfold sKeep at q
  split at q
  · rename_i xs e
    obtain ⟨x, hx, a, vs, rfl, h0, hF, hn, hH, ra⟩ := SS.at_ i _ e
    have pre : Pre w.as (w.as ++ [a]) := fun k b hk => by
      rw [List.getElem?_append_left (List.getElem?_eq_some_iff.mp hk).1]
      exact hk
    have wk : Wk w ⟨w.as ++ [a], w.F, w.H⟩ := ⟨pre, .refl _⟩
    have top : (w.as ++ [a])[μ.length]? = some a := by
      rw [← S.len, List.getElem?_append_right (Nat.le_refl _)]
      simp
    have notold : ∀ (j : Nat), w.as[j]? ≠ some a := fun j z => hn (List.mem_of_getElem? z)
    have get : ∀ (j : Nat) b, (w.as ++ [a])[j]? = some b → (w.as[j]? = some b) ∨ (j = w.as.length ∧ b = a) := fun j b hj => by
      rcases Nat.lt_trichotomy j w.as.length with hlt | heq | hgt
      · rw [List.getElem?_append_left hlt] at hj
        exact .inl hj
      · subst heq
        rw [List.getElem?_append_right (Nat.le_refl _)] at hj
        simp at hj
        exact .inr ⟨rfl, hj.symm⟩
      · rw [List.getElem?_eq_none (by simp; omega)] at hj
        cases hj
    refine hf w0 _ _ ⟨w.as ++ [a], w.F, w.H⟩ σ ⟨l.pre.trans pre, l.ex, l.fresh, l.keep, fun b hb => ?_, l.mono⟩ ⟨by rw [List.length_set]; exact SS.len, fun j s ej => ?_, fun j k ys zs b e1 e2 e3 e4 => ?_⟩ ⟨S.sub, fun j k b hj hk => ?_, by simp [S.len], fun k c ek => ?_⟩ E (Wants.wk wk q)
    · have hb : b ∈ w.as ++ [a] := hb
      rcases List.mem_append.mp hb with hb | hb
      · exact l.news b hb
      · have hb : b = a := by simpa using hb
        subst hb
        exact .inr h0
    · rcases get_set ej with ⟨rfl, e', _⟩ | ⟨hne, ej⟩
      · cases e'
        exact ⟨.ref a, hx, .tok top⟩
      · obtain ⟨y, hy, r⟩ := SS.at_ j s ej
        refine ⟨y, hy, ?_⟩
        cases s with
        | v d => exact Rp.wk wk r
        | own ys =>
          obtain ⟨b, us, rfl, k0, kF, kn, kH, rb⟩ := r
          have hab : b ≠ a := fun z => hne (SS.sep i j xs ys a e ej hx (by rw [← z]; exact hy))
          refine ⟨b, us, rfl, k0, kF, fun z => ?_, kH, rb.wk wk⟩
          have z : b ∈ w.as ++ [a] := z
          rcases List.mem_append.mp z with z | z
          · exact kn z
          · exact hab (by simpa using z)
    · rcases get_set e1 with ⟨_, e', _⟩ | ⟨n1, e1⟩
      · cases e'
      · rcases get_set e2 with ⟨_, e', _⟩ | ⟨n2, e2⟩
        · cases e'
        · exact SS.sep j k ys zs b e1 e2 e3 e4
    · rcases get j b hj with hj' | ⟨rfl, rfl⟩ <;> rcases get k _ hk with hk' | ⟨rfl, z⟩
      · exact S.nd j k b hj' hk'
      · subst z; exact absurd hj' (notold j)
      · exact absurd hk' (notold k)
      · rfl
    · rcases Nat.lt_or_ge k μ.length with hlt | hge
      · rw [List.getElem?_append_left hlt] at ek
        obtain ⟨b, e1, f1, x1⟩ := S.cell k c ek
        exact ⟨b, pre _ _ e1, f1, Sim.cellMono (w := w) pre (.refl _) rfl x1⟩
      · rw [List.getElem?_append_right hge] at ek
        have hk : k = μ.length := by
          have := (List.getElem?_eq_some_iff.mp ek).1
          simp at this
          omega
        subst hk
        simp at ek
        subst ek
        exact ⟨a, top, hF, vs, hH, ra.wk wk⟩
  · exact q.elim
theorem b_keep {i : Nat} (h1 : PBD X g W rest t f) : PBD X g W rest t (sKeep i f) := ⟨h1.pss, ev_keep i h1.ev⟩

/-! ### raise -/
def sRaise (c : Nat) : DS := fun _ μ => .exc c μ
theorem s_raise (c : Nat) {C : Addr} (tk : Takes X W) (he : PMk X e (fun _ H Q => Q (.ref C) none H)) (hx : g.ex c = .ref C) (hc : X.calm = true := by rfl) : PSD X g W (.Raise (some e) none pos) (fun _ σ H => W (.ref C) none σ H) (sRaise c) := ⟨ps_raise hc tk he, fun w0 sd μ w σ l SS S E q => by
  rw [← hx]
  exact q w σ l (.refl w) S⟩

/-! ### defs and their calls -/
abbrev DF := List D → Mu → Res D
def fnD (n : Nat) (fb : DS) : DF := fun ds μ => (fb (ds.map (fun d => some (.v d)) ++ List.replicate (n - ds.length) none) μ).bind fun fl μ' => match fl with
  | .next _ => .ok .none μ'
  | .ret d => .ok d μ'
def ResW (K : Frag) (g : G) (w : Wd) (Q : VK) (E : XK) : Res D → Prop
  | .ok d μ' => ∀ w' v, Le w w' → Sim K g w' μ' → Rp K w'.as w'.F v d → Q v w'.H
  | .exc c μ' => ∀ w', Le w w' → Sim K g w' μ' → E (g.ex c) none w'.H
  | .bad => False
/-- the promise of a def: at data it does what F says -/
def spD (K : Frag) (g : G) (n : Nat) (F : DF) : Sp := fun vs H Q E => ∃ ds μ w, w.H = H ∧ vs.length = n ∧ Sim K g w μ ∧ RpA K w.as w.F vs ds ∧ ResW K g w Q E (F ds μ)
theorem start_sim {K : Frag} {w : Wd} {N : List Str} {vs : List V} {ds : List D} (r : RpA K w.as w.F vs ds) : SimS K w.H w (ds.map (fun d => some (.v d)) ++ List.replicate (N.length - ds.length) none) (start N vs) := by
  have get : ∀ (i : Nat) s, (ds.map (fun d => some (Sl.v d)) ++ List.replicate (N.length - ds.length) none)[i]? = some (some s) → ∃ d, s = .v d ∧ ds[i]? = some d := fun i s e => by
    by_cases hi : i < ds.length
    · rw [List.getElem?_append_left (by simpa using hi), List.getElem?_map, List.getElem?_eq_getElem hi] at e
      have e : s = .v ds[i] := by simpa using e.symm
      exact ⟨_, e, List.getElem?_eq_getElem hi⟩
    · rw [List.getElem?_append_right (by simpa using hi), List.getElem?_replicate] at e
      split at e <;> simp at e
  refine ⟨by simp [L2.start, r.length], fun i s e => ?_, fun i j xs ys a e1 => ?_⟩
  · obtain ⟨d, rfl, hd⟩ := get i s e
    obtain ⟨v, hv, rv⟩ := r.get hd
    have hl := (List.getElem?_eq_some_iff.mp hv).1
    refine ⟨v, ?_, rv⟩
    unfold L2.start
    rw [List.getElem?_append_left (by simpa using hl), List.getElem?_map, hv]
    rfl
  · obtain ⟨d, h, _⟩ := get i _ e1
    cases h
theorem fn_ok {P : Program} {w : World} {K : Frag} {mg : Str → Option Value} {base : Heap} {x qual : Str} {params : Arguments} {body : List Stmt} {scope : Scope} {f : Addr} {fd : FuncData} {N ps : List Str} {k : Nat} {fb : DS}
    (F : FunD K x qual params body scope [] [] f fd) (S : FnScope N ps scope)
    (hbody : ∀ (cdv : Value) (A : Around) (outer : List Env) (s : Shared) (H : Hp) (E : XK), Room k (A.deeper (envOfC qual scope s.heap.objs.size f cdv)) →
      ∃ t, PBD (cxOf (L2.CX P w) P w K mg base N qual scope f cdv A outer s H E) g (fun cls d _ H => E cls d H) body t fb) : FnOk P w K mg base (L2.CX P w) (k + 1) f fd ps (spD K g ps.length (fnD N.length fb)) := by
  refine F.ok S (fun vs H Q E h => ?_) (fun cdv A outer s H vs Q E hr h => ?_)
  · obtain ⟨ds, μ, w, _, hl, _⟩ := h
    exact hl
  · obtain ⟨t, hb⟩ := hbody cdv A outer s H E hr
    refine ⟨t, hb.pss, ?_⟩
    obtain ⟨ds, μ, w1, rfl, hl, S1, ra, q⟩ := h
    refine hb.ev w1 _ μ w1 _ (.refl w1) (start_sim ra) S1 _ ?_
    unfold fnD at q
    cases e : fb (ds.map (fun d => some (.v d)) ++ List.replicate (N.length - ds.length) none) μ with
    | ok fl μ' =>
      rw [e] at q
      cases fl with
      | next sd' => exact fun w' σ' l' _ _ S' => q w' _ l' S' .non
      | ret d => exact fun w' v l' _ S' r => q w' v l' S' r
    | exc c μ' =>
      rw [e] at q
      exact fun w' σ' l' _ S' => q w' l' S'
    | bad =>
      rw [e] at q
      exact q.elim
/-- a def of the module, by its name -/
structure FnD (P : Program) (w : World) (K : Frag) (mg : Str → Option Value) (base : Heap) (g : G) (x : Str) (k n : Nat) (F : DF) : Prop where
  ex : ∃ f fd ps, ps.length = n ∧ FnOk P w K mg base (L2.CX P w) k f fd ps (spD K g n F) ∧ mg x = some (.ref f) ∧ PySem.W.keepIn K (.ref f) = true ∧ Binds K fd ps []
/-- calls with the arguments written -/
def dCall (F : DF) (fa : DA) : DE := fun sd μ => (fa sd μ).bind fun ds μ1 => F ds μ1
theorem ev_call {K : Frag} {n : Nat} {F : DF} {ta : TA} {fa : DA} (ha : EvA K g W ta fa) (hn : ∀ sd μ ds μ1, fa sd μ = .ok ds μ1 → ds.length = n) : EvD K g W (tCallS (spD K g n F) (WE W) ta) (dCall F fa) := fun H0 sd μ w σ SS S => by
  have z := ha H0 sd μ w σ SS S
  unfold dCall
  cases e1 : fa sd μ with
  | exc c μ1 =>
    rw [e1] at z
    exact fun Q q => z _ q
  | bad => trivial
  | ok ds μ1 =>
    rw [e1] at z
    have hl := hn sd μ ds μ1 e1
    simp only [Res.bind_ok]
    cases e2 : F ds μ1 with
    | bad => trivial
    | ok d μ2 => exact fun Q q => z _ fun w1 vs l1 S1 ra => ⟨ds, μ1, w1, rfl, by rw [RpA.length ra]; exact hl, S1, ra, by rw [e2]; exact fun w' v l' S' r => q w' v (l1.trans l') S' r⟩
    | exc c μ2 => exact fun Q q => z _ fun w1 vs l1 S1 ra => ⟨ds, μ1, w1, rfl, by rw [RpA.length ra]; exact hl, S1, ra, by rw [e2]; exact fun w' l' S' => q w' (l1.trans l') S'⟩
/-- so many arguments are handed -/
def LenA (n : Nat) (fa : DA) : Prop := ∀ sd μ ds μ1, fa sd μ = .ok ds μ1 → ds.length = n
theorem LenA.nil : LenA 0 aNil := fun sd μ ds μ1 e => by
  unfold aNil at e
  cases e
  rfl
theorem LenA.cons {n : Nat} {fe : DE} {fa : DA} (h : LenA n fa) : LenA (n + 1) (aCons fe fa) := fun sd μ ds μ1 e => by
  unfold aCons at e
  cases e1 : fe sd μ with
  | ok d μ2 =>
    rw [e1] at e
    simp only [Res.bind_ok] at e
    cases e2 : fa sd μ2 with
    | ok ds2 μ3 =>
      rw [e2] at e
      simp only [Res.bind_ok] at e
      cases e
      rw [List.length_cons, h _ _ _ _ e2]
    | exc c μ3 => rw [e2] at e; cases e
    | bad => rw [e2] at e; cases e
  | exc c μ2 => rw [e1] at e; cases e
  | bad => rw [e1] at e; cases e
theorem d_call {k n : Nat} {F : DF} {x : Str} {p : Pos} {es : List Expr} {ta : TA} {fa : DA} (hF : FnD X.prog X.w X.K X.mg X.base g x k n F) (hr : Room k X.A) (tk : Takes X W) (ha : PAD X g W (e :: es) ta fa) (hn : LenA n fa := by first | exact .cons .nil | exact .cons (.cons .nil) | exact .cons (.cons (.cons .nil)) | exact .cons (.cons (.cons (.cons .nil))) | exact .cons (.cons (.cons (.cons (.cons .nil)))))
    (hg : Gl X x := by rfl) (hdb : (x == ("__debug__" : Str)) = false := by decide) (he : starEach (e :: es) X.env = (false, eval e X.env) :: starEach es X.env := by rfl) (hpl : (backTo pos (starEach es X.env)).any (·.1) = false := by rfl) :
    PED X g W (.Call (.Name x p) (e :: es) [] pos) (tCallS (spD X.K g n F) (WE W) ta) (dCall F fa) := by
  obtain ⟨f, fd, ps, hl, G, hm, hk, hb⟩ := hF.ex
  exact ⟨pe_callS G hr hg hm hk hb (fun σ => passAt tk σ) ha.pa hdb he hpl, ev_call ha.ev hn⟩
end
end DL

set_option maxHeartbeats 4000000
/-! DLBase: short words for the printed derivations. -/
namespace DL
open PySem PySem.Spec PyProof.Rows L2
/-- no def of the module hides these -/
structure Blt (mg : Str → Option Value) : Prop where
  len : mg "len" = none
  sum : mg "sum" = none
  max : mg "max" = none
  min : mg "min" = none
  all : mg "all" = none
  tuple : mg "tuple" = none
  sorted : mg "sorted" = none
  isinstance : mg "isinstance" = none
  int : mg "int" = none
  bool : mg "bool" = none
  list : mg "list" = none
  range : mg "range" = none
  enumerate : mg "enumerate" = none
  zip : mg "zip" = none
  str : mg "str" = none
  set : mg "set" = none
theorem boot_int : bootBuiltins "int" = some (.type "int") := by first | rfl | decide +kernel
theorem boot_bool : bootBuiltins "bool" = some (.type "bool") := by first | rfl | decide +kernel
theorem boot_tuple : bootBuiltins "tuple" = some (.type "tuple") := by first | rfl | decide +kernel
theorem boot_list : bootBuiltins "list" = some (.type "list") := by first | rfl | decide +kernel
theorem boot_str : bootBuiltins "str" = some (.type "str") := by first | rfl | decide +kernel
theorem room_un {k : Nat} {A : Around} (r : Room k A) : A.units + 100 < cLine := by have := r.un; omega
section
variable {X : Cx} {g : G} {W : WX} {e : Expr} {es : List Expr} {t : TA} {fs : DA} {p pos : Pos}
abbrev StarOk (X : Cx) (e : Expr) (es : List Expr) : Prop := starEach (e :: es) X.env = (false, eval e X.env) :: starEach es X.env
abbrev PlOk (X : Cx) (pos : Pos) (es : List Expr) : Prop := (backTo pos (starEach es X.env)).any (·.1) = false
theorem q_len (B : Blt X.mg) (ha : PAD X g W (e :: es) t fs) (hg : Gl X "len" := by rfl) (he : StarOk X e es := by rfl) (hpl : PlOk X pos es := by rfl) : PED X g W (.Call (.Name "len" p) (e :: es) [] pos) (tCB (rLen X.K) t) (dCB pyLen fs) := d_callB call_len rd_len hg B.len (by first | rfl | decide +kernel) ha (by decide) (by decide) he hpl
theorem q_sum (B : Blt X.mg) (ha : PAD X g W (e :: es) t fs) (hg : Gl X "sum" := by rfl) (hc : X.calm = true := by rfl) (he : StarOk X e es := by rfl) (hpl : PlOk X pos es := by rfl) : PED X g W (.Call (.Name "sum" p) (e :: es) [] pos) (tCB (rSumA X.K) t) (dCB pySum fs) := d_callB ((cr_sum hc).or (cr_sumT hc)) rd_sum hg B.sum (by first | rfl | decide +kernel) ha (by decide) (by decide) he hpl
theorem q_max (B : Blt X.mg) (ha : PAD X g W (e :: es) t fs) (hg : Gl X "max" := by rfl) (hc : X.calm = true := by rfl) (he : StarOk X e es := by rfl) (hpl : PlOk X pos es := by rfl) : PED X g W (.Call (.Name "max" p) (e :: es) [] pos) (tCB (rMaxA X.K) t) (dCB pyMax fs) := d_callB ((cr_max hc).or ((cr_maxT hc).or (call_max2 hc))) rd_max hg B.max (by first | rfl | decide +kernel) ha (by decide) (by decide) he hpl
theorem q_min (B : Blt X.mg) (ha : PAD X g W (e :: es) t fs) (hg : Gl X "min" := by rfl) (hc : X.calm = true := by rfl) (he : StarOk X e es := by rfl) (hpl : PlOk X pos es := by rfl) : PED X g W (.Call (.Name "min" p) (e :: es) [] pos) (tCB (rMinA X.K) t) (dCB pyMin fs) := d_callB ((cr_min hc).or (call_min2 hc)) rd_min hg B.min (by first | rfl | decide +kernel) ha (by decide) (by decide) he hpl
theorem q_all (B : Blt X.mg) (ha : PAD X g W (e :: es) t fs) (hg : Gl X "all" := by rfl) (hc : X.calm = true := by rfl) (he : StarOk X e es := by rfl) (hpl : PlOk X pos es := by rfl) : PED X g W (.Call (.Name "all" p) (e :: es) [] pos) (tCB (rAll X.K) t) (dCB pyAll fs) := d_callB (cr_all hc) rd_all hg B.all (by first | rfl | decide +kernel) ha (by decide) (by decide) he hpl
theorem q_tuple (B : Blt X.mg) (ha : PAD X g W (e :: es) t fs) (hg : Gl X "tuple" := by rfl) (he : StarOk X e es := by rfl) (hpl : PlOk X pos es := by rfl) : PED X g W (.Call (.Name "tuple" p) (e :: es) [] pos) (tCB (rTuple X.K) t) (dCB pyTuple fs) := d_callTy call_tuple_of rd_tuple hg B.tuple boot_tuple ha (by decide) (by decide) he hpl
theorem q_sorted (hu : X.A.units + 100 < cLine) (B : Blt X.mg) (ha : PAD X g W (e :: es) t fs) (hg : Gl X "sorted" := by rfl) (he : StarOk X e es := by rfl) (hpl : PlOk X pos es := by rfl) : PED X g W (.Call (.Name "sorted" p) (e :: es) [] pos) (tCB (rSortD X.K) t) (dCB pySorted fs) := d_callB (cr_sortedD hu) rd_sorted hg B.sorted (by first | rfl | decide +kernel) ha (by decide) (by decide) he hpl
/-! ### an own exception class -/
structure ExD (K : Frag) (mg : Str → Option Value) (g : G) (x : Str) (c : Nat) : Prop where
  ex : ∃ C : Addr, g.ex c = .ref C ∧ PySem.W.excIn K C He.veBase "ValueError.__new__" = true ∧ mg x = some (.ref C) ∧ PySem.W.keepIn K (.ref C) = true ∧ PySem.W.subIn K (.ref C) (.type "BaseException") = some true ∧ PySem.W.typeIn K (.ref C) = some (.type "type")
theorem s_raiseD {x m : Str} {j c : Nat} {p2 pos2 : Pos} (h : ExD X.K X.mg g x c) (tk : Takes X W) (hg : Gl X x := by rfl) (hc : X.calm = true := by rfl) (hdb : (x == ("__debug__" : Str)) = false := by decide) :
    PSD X g W (.Raise (some (.Call (.Name x p) [.Constant (.str m) j p2] [] pos)) none pos2) (fun _ σ H => W (g.ex c) none σ H) (sRaise c) := by
  obtain ⟨C, hx, q, gC, kC, b, ty⟩ := h.ex
  rw [hx]
  exact s_raise c tk (pmk_own PySem.F.excBase_ValueError q gC kC (raises_own b ty) hg hdb) hx hc
/-! ### a call without arguments -/
def dCall0 (F : DF) : DE := fun sd μ => F [] μ
theorem d_call0 {k : Nat} {F : DF} {x : Str} (hF : FnD X.prog X.w X.K X.mg X.base g x k 0 F) (hr : Room k X.A) (tk : Takes X W) (hg : Gl X x := by rfl) (hdb : (x == ("__debug__" : Str)) = false := by decide) :
    PED X g W (.Call (.Name x p) [] [] pos) (tCallS (spD X.K g 0 F) (WE W) tNil) (dCall0 F) := by
  obtain ⟨f, fd, ps, hl, G, hm, hk, hb⟩ := hF.ex
  refine ⟨⟨fun pins sh σ H Q I hQ => wpAny_Call_Name_kw (ld_glob I hg hm (PySem.W.callWith_K0 I.kIn hk (run_fnS (us := []) G hr hb (passAt tk σ) I .nil hQ)) hdb)⟩, ?_⟩
  exact ev_call ev_nil (n := 0) (F := F) (LenA.nil)
end
/-- a def of the module does what its denotation says -/
theorem fn_made {P : Program} {w : World} {K : Frag} {mg : Str → Option Value} {base : Heap} {g : G} {x qual : Str} {params : Arguments} {body : List Stmt} {scope : Scope} {f : Addr} {fd : FuncData} (N ps : List Str) (k n : Nat) (fb : DS) {Fd : DF}
    (F : FunD K x qual params body scope [] [] f fd) (hm : mg x = some (.ref f)) (S : FnScope N ps scope) (hn : ps.length = n) (hF : Fd = fnD N.length fb) (hb : Binds K fd ps [])
    (hbody : ∀ (cdv : Value) (A : Around) (outer : List Env) (s : Shared) (H : Hp) (E : XK), Room k (A.deeper (envOfC qual scope s.heap.objs.size f cdv)) →
      ∃ t, PBD (cxOf (L2.CX P w) P w K mg base N qual scope f cdv A outer s H E) g (fun cls d _ H => E cls d H) body t fb) : FnD P w K mg base g x (k + 1) n Fd := by
  subst hF
  subst hn
  exact ⟨f, fd, ps, rfl, fn_ok F S hbody, hm, F.kp, hb⟩
end DL

set_option maxHeartbeats 4000000
/-! DLSet: sorted(set(a tuple of numbers)). -/
namespace DL
open PySem PySem.Spec PyProof.Rows L2
def rSetT (K : Frag) (w : World) : List V → Hp → VK → Prop := fun xs H Q => ∃ (p : Addr) (ns : List Int), xs = [.ref p] ∧ SqT K H p (ns.map V.int) ∧ ns.length ≤ 60 ∧ ∀ (l : Addr) (c : Nat), c ≤ ns.length → H l = none → Q (.ref l) (upd H l (SetO w l (fun j => decide (j ∈ ns)) c))
theorem cr_setT {X : Cx} (hc : X.calm = true) : CallR X (.type "set") (rSetT X.K X.w) := by
  intro pins s σ H xs us Q I r hyp
  obtain ⟨p, ns, rfl, hq, hl, q⟩ := hyp
  obtain ⟨its, rv, tp, hz⟩ := I.tuple hq
  rw [Vals.ref1 r]
  exact call_set_tupI ns (I.ok.hd hc) (show s.heap.IsTuple p its.toArray from tp) (by simpa using intsAre_of rv) (by show ns.length + 1 < 4096; omega) fun h' tk c R hcl k =>
    ⟨.ref _, _, I.laid (t' := tk) k (Nat.le_refl _) (setO_new R), rfl, q _ _ hcl (I.hok.fresh (Nat.le_refl _))⟩
theorem ints_of_rp {K : Frag} {as : List Addr} {F : Hp} : ∀ ns : List Int, RpA K as F (ns.map V.int) (ns.map PyData.int)
  | [] => .nil
  | i :: r => .cons (.int i) (ints_of_rp r)
/-- put in order, once -/
def putU (x : Int) : List Int → List Int
  | [] => [x]
  | y :: r => if x < y then x :: y :: r else if x = y then y :: r else y :: putU x r
def uniq : List Int → List Int
  | [] => []
  | x :: r => putU x (uniq r)
theorem putU_mem (x z : Int) : ∀ l : List Int, z ∈ putU x l ↔ z = x ∨ z ∈ l
  | [] => by simp [putU]
  | y :: r => by
    unfold putU
    by_cases h1 : x < y
    · rw [if_pos h1, List.mem_cons]
    · rw [if_neg h1]
      by_cases h2 : x = y
      · rw [if_pos h2, h2]
        simp
      · rw [if_neg h2, List.mem_cons, putU_mem x z r, List.mem_cons]
        constructor
        · rintro (h | h | h)
          · exact .inr (.inl h)
          · exact .inl h
          · exact .inr (.inr h)
        · rintro (h | h | h)
          · exact .inr (.inl h)
          · exact .inl h
          · exact .inr (.inr h)
theorem putU_asc (x : Int) : ∀ l : List Int, l.Pairwise (· < ·) → (putU x l).Pairwise (· < ·)
  | [], _ => by simp [putU]
  | y :: r, h => by
    rw [List.pairwise_cons] at h
    unfold putU
    by_cases h1 : x < y
    · rw [if_pos h1]
      exact List.pairwise_cons.mpr ⟨fun z hz => by
        rcases List.mem_cons.mp hz with rfl | hz
        · exact h1
        · have := h.1 z hz; omega, List.pairwise_cons.mpr h⟩
    · rw [if_neg h1]
      by_cases h2 : x = y
      · rw [if_pos h2]
        exact List.pairwise_cons.mpr h
      · rw [if_neg h2]
        exact List.pairwise_cons.mpr ⟨fun z hz => by
          rcases (putU_mem x z r).mp hz with rfl | hz
          · omega
          · exact h.1 z hz, putU_asc x r h.2⟩
theorem uniq_mem (z : Int) : ∀ l : List Int, z ∈ uniq l ↔ z ∈ l
  | [] => Iff.rfl
  | x :: r => by
    unfold uniq
    rw [putU_mem, uniq_mem z r, List.mem_cons]
theorem uniq_asc : ∀ l : List Int, (uniq l).Pairwise (· < ·)
  | [] => .nil
  | x :: r => putU_asc x _ (uniq_asc r)
theorem asc_uniq {a b : List Int} (ha : a.Pairwise (· < ·)) (hb : b.Pairwise (· < ·)) (h : ∀ z, z ∈ a ↔ z ∈ b) : a = b := by
  have na : a.Nodup := ha.imp fun h e => by omega
  have nb : b.Nodup := hb.imp fun h e => by omega
  have p : a.Perm b := (List.perm_ext_iff_of_nodup na nb).mpr h
  exact List.Perm.eq_of_pairwise (le := (· < ·)) (fun x y _ _ h1 h2 => by omega) ha hb p
def pySortSet : D → Option (List D)
  | .tuple xs => (asInts xs).bind fun ns => if ns.length ≤ 60 then some ((uniq ns).map .int) else none
  | _ => none
def lSortSet (fa : DE) : DA := fun sd μ => (fa sd μ).bind fun d μ1 => lift (pySortSet d) μ1
section
variable {X : Cx} {g : G} {W : WX} {a : Expr} {ta : TE} {fa : DE} {p p2 pos pos2 : Pos}
theorem l_sortSet (hc : X.calm = true) (B : Blt X.mg) (ha : PED X g W a ta fa) (hg : Gl X "sorted" := by rfl) (hg2 : Gl X "set" := by rfl) (he : starEach [.Call (.Name "set" p2) [a] [] pos2] X.env = (false, eval (.Call (.Name "set" p2) [a] [] pos2) X.env) :: starEach [] X.env := by rfl) (hpl : (backTo pos (starEach [] X.env)).any (·.1) = false := by rfl)
    (he2 : starEach [a] X.env = (false, eval a X.env) :: starEach [] X.env := by rfl) (hpl2 : (backTo pos2 (starEach [] X.env)).any (·.1) = false := by rfl) :
    PLD X g W (.Call (.Name "sorted" p) [.Call (.Name "set" p2) [a] [] pos2] [] pos) (tCB (rSortedSet X.w) (tCons (tCB (rSetT X.K X.w) (tCons ta tNil)) tNil)) (lSortSet fa) :=
  ⟨pe_callB (cr_sortedSet hc) hg B.sorted (by first | rfl | decide +kernel) (pa_cons (pe_callTy (cr_setT hc) hg2 B.set (by first | rfl | decide +kernel) (pa_cons ha.pe pa_nil he2) (by decide) (by decide) he2 hpl2) pa_nil he) (by decide) (by decide) he hpl, fun H0 sd μ w σ SS S => by
    have z := ha.ev H0 sd μ w σ SS S
    unfold lSortSet
    cases e1 : fa sd μ with
    | exc c μ1 => rw [e1] at z; exact fun Q q => z _ q
    | bad => trivial
    | ok d μ1 =>
      rw [e1] at z
      simp only [Res.bind_ok]
      cases e2 : pySortSet d with
      | none => trivial
      | some ds =>
        refine fun Q q => z _ fun w1 x l1 S1 rx => ?_
        unfold pySortSet at e2
        split at e2
        · rename_i xs
          cases e3 : asInts xs with
          | none => rw [e3] at e2; cases e2
          | some ns =>
            rw [e3, Option.bind_some] at e2
            by_cases hl : ns.length ≤ 60
            · rw [if_pos hl] at e2
              cases e2
              obtain ⟨b, vs, rfl, hq, ra⟩ := Rp.tupV rx
              rw [asInts_map e3] at ra
              have ev : vs = ns.map V.int := ra.ints
              rw [ev] at hq
              refine ⟨b, ns, rfl, S1.sub.sqT hq, hl, fun l c hcl hn => ⟨l, fun j => decide (j ∈ ns), c, rfl, upd_same, by omega, fun ms q2 hasc hmem hlen hn2 => ?_⟩⟩
              have em : ms = uniq ns := asc_uniq hasc (uniq_asc ns) fun k => by rw [hmem, decide_eq_true_eq, uniq_mem]
              have S2 : Sim X.K g (w1.lay l (SetO X.w l (fun j => decide (j ∈ ns)) c)) μ1 := S1.lay (S1.sub.none hn) (S1.notas hn)
              have l2 := S1.layLe (o := SetO X.w l (fun j => decide (j ∈ ns)) c) hn
              have S3 : Sim X.K g ((w1.lay l (SetO X.w l (fun j => decide (j ∈ ns)) c)).lay q2 (.lst (ms.map V.int))) μ1 := S2.lay (S2.sub.none hn2) (S2.notas hn2)
              have l3 := S2.layLe (o := .lst (ms.map V.int)) hn2
              have ri : RpA X.K w1.as w1.F (ms.map V.int) ((uniq ns).map PyData.int) := by
                rw [em]
                exact ints_of_rp _
              exact q _ _ ((l1.trans l2).trans l3) S3 ⟨q2, ms.map V.int, rfl, l1.mono _ (l2.mono _ hn2), S2.sub.none hn2, S2.notas hn2, upd_same, ri⟩
            · rw [if_neg hl] at e2; cases e2
        · cases e2⟩
end
end DL

set_option maxHeartbeats 4000000
/-! DLIdx: len(set(a list of numbers)), xs.index(k). -/
namespace DL
open PySem PySem.Spec PyProof.Rows L2
/-! ### len(set(xs)) -/
def metN (ns : List Int) : Nat := (PyProof.Rows.firstMet (fun i => ns.getD i 0) ns.length).length
def tLenSetN (K : Frag) (ta : TE) : TE := fun σ H Q => ta σ H fun x H1 => ∃ (l : Addr) (ns : List Int), x = V.ref l ∧ SqL K H1 l (ns.map V.int) ∧ ns.length ≤ 1000 ∧ Q (.int (metN ns)) H1
section
variable {X : Cx} {g : G} {W : WX} {a e : Expr} {ta te : TE} {fa fe : DE} {p p2 pos pos2 : Pos}
theorem pe_lenSetN (cm : X.calm = true) (B : Blt X.mg) (ga : Gl X "len") (gb : Gl X "set") (pa : PE X a ta) (sa : starEach [a] X.env = (false, eval a X.env) :: starEach [] X.env := by rfl) :
    PE X (.Call (.Name "len" p) [.Call (.Name "set" p2) [a] [] pos2] [] pos) (tLenSetN X.K ta) := by
  refine ⟨fun pins sh σ H Q I hyp => Call_ (ld_blt I ga B.len PySem.boot_len (PyProof.Rows.callWith_builtin1 (PyProof.Rows.args_cons (Call_ (ld_blt I gb B.set PyProof.Rows.boot_set (PyProof.Rows.callWith_type1 (PyProof.Rows.args_cons (thn (pa.run pins sh σ H _ I hyp) fun v s1 hx => PyProof.Rows.args_nil ?_) sa) sa rfl))) rfl) rfl rfl))⟩
  obtain ⟨x, H1, I1, rx, l, ns, rfl, hq, hsz, hQ⟩ := hx
  cases rx
  obtain ⟨its, rv, pl, hz⟩ := I1.list hq
  have el : its.toArray.size = ns.length := (by rw [List.size_toArray, ← rv.length, List.length_map])
  refine call_set_list (ns := ns) (I1.ok.hd cm) pl.isList (by simpa using intsAre_of rv) (by show its.toArray.size + 1 < 4096; omega) fun h' tk hS hk => PyProof.Rows.args_nil ?_
  rw [el] at hS
  obtain ⟨ob, es, ep, tb, h1, h2, h3, _, _, _, h4, h5⟩ := hS
  have I2 : Inv X pins σ H1 { s1 with heap := h', toks := tk } := I1.kept fun b o eo => hk b o (Heap.lt_size eo) eo
  have hb := PyProof.Rows.firstMet_length_le (fun i => ns.getD i 0) ns.length
  exact call_len_set h1 h2 h3 h4 (by rw [h5]; omega) ⟨.int (metN ns), H1, I2.tok _, ⟨_, by rw [h5]; rfl⟩, hQ⟩
def pyLenSet : D → Option D
  | .list xs => (asInts xs).bind fun ns => if ns.length ≤ 1000 then some (.int (metN ns)) else none
  | _ => none
theorem d_lenSet (cm : X.calm = true) (B : Blt X.mg) (ha : PED X g W a ta fa) (ga : Gl X "len" := by rfl) (gb : Gl X "set" := by rfl) (sa : starEach [a] X.env = (false, eval a X.env) :: starEach [] X.env := by rfl) :
    PED X g W (.Call (.Name "len" p) [.Call (.Name "set" p2) [a] [] pos2] [] pos) (tLenSetN X.K ta) (dUn pyLenSet fa) := ⟨pe_lenSetN cm B ga gb ha.pe sa, fun H0 sd μ w σ SS S => by
  have z := ha.ev H0 sd μ w σ SS S
  unfold dUn
  cases e1 : fa sd μ with
  | exc c μ1 => rw [e1] at z; exact fun Q q => z _ q
  | bad => trivial
  | ok d μ1 =>
    rw [e1] at z
    simp only [Res.bind_ok]
    cases e2 : pyLenSet d with
    | none => trivial
    | some r =>
      refine fun Q q => z _ fun w1 x l1 S1 rx => ?_
      unfold pyLenSet at e2
      split at e2
      · rename_i xs
        cases e3 : asInts xs with
        | none => rw [e3] at e2; cases e2
        | some ns =>
          rw [e3, Option.bind_some] at e2
          by_cases hl : ns.length ≤ 1000
          · rw [if_pos hl] at e2
            cases e2
            obtain ⟨b, vs, rfl, hq, ra⟩ := Rp.lstV rx
            rw [asInts_map e3] at ra
            have ev : vs = ns.map V.int := ra.ints
            rw [ev] at hq
            exact ⟨b, ns, rfl, sqL_of (S1.sub _ _ hq), hl, q w1 _ l1 S1 (.int _)⟩
          · rw [if_neg hl] at e2; cases e2
      · cases e2⟩
/-! ### xs.index(k) -/
def rIdxN (K : Frag) : V → List V → Hp → VK → Prop := fun x vs H Q => ∃ (l : Addr) (ns : List Int) (k : Int), x = .ref l ∧ vs = [.int k] ∧ SqL K H l (ns.map V.int) ∧ k ∈ ns ∧ Q (.int (ns.idxOf k : Nat)) H
theorem mt_idxN : MtR X "list.index" (rIdxN X.K) := by
  intro pins sh σ H x xs v us Q I rx rs hyp
  obtain ⟨l, ns, k, rfl, rfl, hq, hk, q⟩ := hyp
  cases rx
  obtain ⟨u, rfl, ru⟩ := rs.one
  obtain ⟨t, rfl⟩ := ru
  obtain ⟨its, rv, pl, hz⟩ := I.list hq
  exact SeqAt.list_index_ints pl.isList (intsAre_of rv) (by rw [List.length_map] at hz; exact hz) hk ⟨.int (ns.idxOf k : Nat), H, I.tok _, ⟨sh.toks, rfl⟩, q⟩
def pyIdx : D → D → Option D
  | .list xs, .int k => (asInts xs).bind fun ns => if k ∈ ns then some (.int (ns.idxOf k : Nat)) else none
  | _, _ => none
def isList : D → Bool
  | .list _ => true
  | _ => false
def dIdx (fa fe : DE) : DE := fun sd μ => (fa sd μ).bind fun d μ1 => if isList d = true then (fe sd μ1).bind fun k μ2 => lift (pyIdx d k) μ2 else .bad
theorem d_idx {apos cpos : Pos} (ha : PED X g W a ta fa) (he : PED X g W e te fe)
    (bm : PE X a ta → PA X [e] (tCons te tNil) → PE X (.Call (.Attribute a "index" apos) [e] [] cpos) (tBM X.K "list" (rIdxN X.K) ta (tCons te tNil)) := by exact fun ho ha => pe_bm PySem.F.plainAttrs_list PySem.F.slot_list_index PySem.F.type_list_index mt_idxN ho ha)
    (hst : starEach [e] X.env = (false, eval e X.env) :: starEach [] X.env := by rfl) :
    PED X g W (.Call (.Attribute a "index" apos) [e] [] cpos) (tBM X.K "list" (rIdxN X.K) ta (tCons te tNil)) (dIdx fa fe) := ⟨bm ha.pe (pa_cons he.pe pa_nil hst), fun H0 sd μ w σ SS S => by
  have z := ha.ev H0 sd μ w σ SS S
  unfold dIdx
  cases e1 : fa sd μ with
  | exc c μ1 => rw [e1] at z; exact fun Q q => z _ q
  | bad => trivial
  | ok d μ1 =>
    rw [e1] at z
    simp only [Res.bind_ok]
    cases d with
    | list xs =>
      rw [if_pos (show isList (.list xs) = true from rfl)]
      cases e2 : fe sd μ1 with
      | bad => trivial
      | exc c μ2 =>
        refine fun Q q => z _ fun w1 x l1 S1 rx => ?_
        obtain ⟨b, vs, rfl, hq, ra⟩ := Rp.lstV rx
        have z2 := he.ev H0 sd μ1 w1 σ (SS.le l1) S1
        rw [e2] at z2
        exact ⟨isL (S1.sub _ _ hq), tOne (z2 _ fun w2 l2 S2 => q w2 (l1.trans l2) S2)⟩
      | ok k μ2 =>
        simp only [Res.bind_ok]
        cases e3 : pyIdx (.list xs) k with
        | none => trivial
        | some r =>
          refine fun Q q => z _ fun w1 x l1 S1 rx => ?_
          obtain ⟨b, vs, rfl, hq, ra⟩ := Rp.lstV rx
          have z2 := he.ev H0 sd μ1 w1 σ (SS.le l1) S1
          rw [e2] at z2
          refine ⟨isL (S1.sub _ _ hq), tOne (z2 _ fun w2 y l2 S2 ry => ?_)⟩
          cases k with
          | int ik =>
            have e3 : ((asInts xs).bind fun ns => if ik ∈ ns then some (PyData.int (ns.idxOf ik : Nat)) else none) = some r := e3
            cases e4 : asInts xs with
            | none => rw [e4] at e3; cases e3
            | some ns =>
              rw [e4, Option.bind_some] at e3
              by_cases hm : ik ∈ ns
              · rw [if_pos hm] at e3
                cases e3
                rw [asInts_map e4] at ra
                have ev : vs = ns.map V.int := ra.ints
                rw [ev] at hq
                rw [Rp.intV ry]
                exact ⟨b, ns, ik, rfl, rfl, sqL_of (S2.sub _ _ (l2.ex _ _ hq)), hm, q w2 _ (l1.trans l2) S2 (.int _)⟩
              · rw [if_neg hm] at e3; cases e3
          | _ => cases e3
    | _ => trivial⟩
end
end DL

set_option maxHeartbeats 4000000
/-! DLWhich: which error was caught (a def that gets the caught error and asks isinstance). -/
namespace DL
open PySem PySem.Spec PyProof.Rows L2 L2H
/-! ### what the classes must say -/
def excB (K : Frag) (D : Addr) : Bool :=
  (PySem.W.findIn K (.ref D) "__getattribute__" == some (some (.builtin "BaseException.__getattribute__"))) && (PySem.W.findIn K (.ref D) "__getattr__" == some none) && (PySem.W.subIn K (.ref D) (.type "BaseException") == some true) &&
  PySem.W.hasDictIn K D && (PySem.W.findIn K (.ref D) "__class__" == some (some (.builtin "object.__class__"))) && (PySem.W.specialIn K (.builtin "object.__class__") "__get__" == some (some (.builtin "getset_descriptor.__get__"))) &&
  (PySem.W.takesIn K (.builtin "object.__class__") == some true) && (PySem.W.mroIn K D (.type "object") == some true)
theorem excB_ok {K : Frag} {D : Addr} (h : excB K D = true) : ExcC K D := by
  unfold excB at h
  simp only [Bool.and_eq_true, beq_iff_eq] at h
  obtain ⟨⟨⟨⟨⟨⟨⟨h1, h2⟩, h3⟩, h4⟩, h5⟩, h6⟩, h7⟩, h8⟩ := h
  exact ⟨h1, h2, h3, h4, h5, h6, h7, h8⟩
/-- the classes by number, from 1 -/
def whB (K : Frag) (base : Addr) (ex : List Addr) : Bool :=
  ex.all fun D => excB K D && (PySem.W.kitOne K (.ref D) (.type "ValueError") == some true) && (PySem.W.exmOne K (.ref D) (.ref base) == some true) && ex.all fun C => PySem.W.kitOne K (.ref D) (.ref C) == some (decide (D = C))
structure WhOk (K : Frag) (g : G) (mg : Str → Option Value) : Prop where
  base : ∃ B, mg "BidError" = some (.ref B) ∧ ∀ c, 1 ≤ c → c ≤ 10 → PySem.W.exmOne K (g.ex c) (.ref B) = some true
  cls : ∀ c, 1 ≤ c → c ≤ 10 → ∃ D, g.ex c = .ref D ∧ ExcC K D ∧ PySem.W.kitOne K (.ref D) (.type "ValueError") = some true ∧ ∀ j, 1 ≤ j → j ≤ 10 → PySem.W.kitOne K (.ref D) (g.ex j) = some (decide (c = j))
theorem whOk_of {K : Frag} {g : G} {mg : Str → Option Value} {B : Addr} {ex : List Addr} (hB : mg "BidError" = some (.ref B)) (hl : ex.length = 10) (hex : ∀ i (h : i < ex.length), g.ex (i + 1) = .ref ex[i]) (nd : ex.Nodup) (h : whB K B ex = true) : WhOk K g mg := by
  have all := List.all_eq_true.mp h
  have one : ∀ c, 1 ≤ c → c ≤ 10 → ∃ h : c - 1 < ex.length, g.ex c = .ref ex[c - 1] := fun c h1 h2 => by
    have hc : c - 1 < ex.length := by omega
    refine ⟨hc, ?_⟩
    have := hex (c - 1) hc
    rw [show c - 1 + 1 = c by omega] at this
    exact this
  refine ⟨⟨B, hB, fun c h1 h2 => ?_⟩, fun c h1 h2 => ?_⟩
  · obtain ⟨hc, e⟩ := one c h1 h2
    have z := all _ (List.getElem_mem hc)
    simp only [Bool.and_eq_true, beq_iff_eq] at z
    rw [e]
    exact z.1.2
  · obtain ⟨hc, e⟩ := one c h1 h2
    have z := all _ (List.getElem_mem hc)
    simp only [Bool.and_eq_true, beq_iff_eq] at z
    refine ⟨_, e, excB_ok z.1.1.1, z.1.1.2, fun j g1 g2 => ?_⟩
    obtain ⟨hj, e2⟩ := one j g1 g2
    have y := List.all_eq_true.mp z.2 _ (List.getElem_mem hj)
    rw [beq_iff_eq] at y
    rw [e2, y]
    congr 1
    have : (ex[c - 1] = ex[j - 1]) ↔ c = j := by
      constructor
      · intro q
        rcases Nat.lt_trichotomy (c - 1) (j - 1) with h | h | h
        · exact absurd q (List.pairwise_iff_getElem.mp nd _ _ hc hj h)
        · omega
        · exact absurd q.symm (List.pairwise_iff_getElem.mp nd _ _ hj hc h)
      · intro q
        subst q
        rfl
    exact decide_eq_decide.mpr this
/-! ### isinstance of a pinned error; list.count(True) -/
section
variable {X : Cx}
theorem call_isP {a D : Addr} {oe : Obj} (C : ExcC X.K D) (hz : Zc (.ref D) none oe) (hf : ∃ vs, oe.data = .fields vs) (hp : (a, oe) ∈ X.pn) : CallR X (.builtin "isinstance") (rIsE X.K D a) := by
  intro pins s σ H xs us Q I r hyp
  obtain ⟨c, cv, b, rfl, hcv, e, q⟩ := hyp
  obtain ⟨u1, u2, rfl, r1, r2⟩ : ∃ u1 u2, us = [u1, u2] ∧ RelV (V.ref a) u1 ∧ RelV c u2 := by
    cases r with
    | cons x y =>
      cases y with
      | cons z w =>
        cases w
        exact ⟨_, _, rfl, x, z⟩
  cases r1
  cases hcv _ r2
  have P := (I.pin (a, oe) (List.mem_append_left _ hp)).1
  obtain ⟨vs, hv⟩ := hf
  have J : PySem.W.InstAt s.heap a oe D none := by
    obtain ⟨o1, o2, o3, o4⟩ := oe
    obtain ⟨z1, z2⟩ := hz
    dsimp only at z1 z2 hv
    subst z1 z2 hv
    exact ⟨P, rfl, rfl, trivial⟩
  refine PySem.W.kia_one (PySem.W.handS_kitx_exc C.hg C.hk C.hs C.hd C.ha C.hn C.ht C.hm) I.kIn J e (fun z => by cases z) fun tk => ?_
  exact ⟨.bl b, H, I.kept (t' := tk) fun _ _ y => y, rfl, q⟩
theorem dpA_bls {K : Frag} {H : Hp} : ∀ bs : List Bool, DpAll K H (bs.map V.bl) (bs.map PyData.bool)
  | [] => .nil
  | b :: bs => .cons (.bl b) (dpA_bls bs)
theorem plain_bls : ∀ bs : List Bool, PyData.plainAll (bs.map PyData.bool) = true
  | [] => by simp [PyData.plainAll]
  | b :: bs => by simp [PyData.plainAll, PyData.plain, plain_bls bs]
theorem count_bls (bs : List Bool) : (bs.map PyData.bool).countP (fun y => PyData.eqv y (.bool true)) = bs.count true := by
  rw [List.countP_map, List.count]
  congr 1
theorem mt_countB (hu : X.A.units + 65 < cLine) : MtR X "list.count" (fun x xs H Q => ∃ (a : Addr) (bs : List Bool), x = .ref a ∧ xs = [.bl true] ∧ SqL X.K H a (bs.map V.bl) ∧ Q (.int (bs.count true : Nat)) H) := by
  intro pins s σ H x xs v us Q I rx rxs hyp
  obtain ⟨a, bs, rfl, rfl, hq, q⟩ := hyp
  cases rx
  obtain ⟨u, rfl, ru⟩ := rxs.one
  cases ru
  obtain ⟨its, rv, pl, hz⟩ := I.list hq
  obtain ⟨as, r1⟩ := Dp.readsAll I _ _ its (dpA_bls bs) rv
  refine SeqAt.count_list_data (xs := bs.map PyData.bool) (d := .bool true) (bs := []) pl.isList (by simpa using r1) (by first | exact .bool true | constructor) (plain_bls bs) rfl ?_ ?_
  · have : (PyData.bool true).depth = 0 := by simp [PyData.depth]
    omega
  · rw [count_bls]
    exact ⟨.int (bs.count true : Nat), H, I.tok _, ⟨_, rfl⟩, q⟩
end
/-! ### the def that asks which error it was -/
abbrev rCntB (K : Frag) : V → List V → Hp → VK → Prop := fun x xs H Q => ∃ (a : Addr) (bs : List Bool), x = .ref a ∧ xs = [.bl true] ∧ SqL K H a (bs.map V.bl) ∧ Q (.int (bs.count true : Nat)) H
/-- isinstance(e, c), e in slot 0 -/
abbrev tIs (K : Frag) (D a : Addr) (v : V) : TE := tCB (rIsE K D a) (tCons (tVar 0) (tCons (tC v) tNil))
theorem is_at {K : Frag} {D a : Addr} {v : V} {cv : Value} {b : Bool} {σ : L2.St} {H : Hp} {Q : VK} (h0 : σ[0]? = some (some (.ref a))) (hv : ∀ u, RelV v u → u = cv) (hk : PySem.W.kitOne K (.ref D) cv = some b) (q : Q (.bl b) H) : tIs K D a v σ H Q :=
  ⟨.ref a, h0, v, cv, b, rfl, hv, hk, q⟩
theorem rel_ref {c : Addr} : ∀ u, RelV (.ref c) u → u = .ref c := fun u h => h
theorem rel_ty {t : String} : ∀ u, RelV (.ty t) u → u = .type t := fun u h => h
section
variable {X : Cx} {a D : Addr} {oe : Obj} {x : Str} {p1 p2 p3 pos : Pos}
theorem pe_isC {C : Addr} (hI : X.mg "isinstance" = none) (ec : ExcC X.K D) (hz : Zc (.ref D) none oe) (hf : ∃ vs, oe.data = .fields vs) (hp : (a, oe) ∈ X.pn) (hm : X.mg x = some (.ref C)) (hN : X.N[0]? = some ("_law_e" : Str) := by rfl) (hv : Vis X.env.scope "_law_e" := by first | exact Or.inl rfl | exact Or.inr (Or.inl rfl)) (hg : Gl X "isinstance" := by rfl) (hg2 : Gl X x := by rfl)
    (hd : (x == ("__debug__" : Str)) = false := by decide) (he : starEach [.Name "_law_e" p2, .Name x p3] X.env = (false, eval (.Name "_law_e" p2) X.env) :: starEach [.Name x p3] X.env := by rfl) (hpl : (backTo pos (starEach [.Name x p3] X.env)).any (·.1) = false := by rfl)
    (hs2 : starEach [.Name x p3] X.env = (false, eval (.Name x p3) X.env) :: starEach [] X.env := by rfl) :
    PE X (.Call (.Name "isinstance" p1) [.Name "_law_e" p2, .Name x p3] [] pos) (tIs X.K D a (.ref C)) :=
  pe_callB (call_isP ec hz hf hp) hg hI (by decide +kernel) (pa_cons (pe_var hN hv (by decide) (by decide)) (pa_cons (pe_glob hg2 hm rfl hd) pa_nil hs2) he) (he := he) (hpl := hpl)
theorem pe_isV (hI : X.mg "isinstance" = none) (ec : ExcC X.K D) (hz : Zc (.ref D) none oe) (hf : ∃ vs, oe.data = .fields vs) (hp : (a, oe) ∈ X.pn) (hm : X.mg "ValueError" = none) (hN : X.N[0]? = some ("_law_e" : Str) := by rfl) (hv : Vis X.env.scope "_law_e" := by first | exact Or.inl rfl | exact Or.inr (Or.inl rfl)) (hg : Gl X "isinstance" := by rfl) (hg2 : Gl X "ValueError" := by rfl)
    (he : starEach [.Name "_law_e" p2, .Name "ValueError" p3] X.env = (false, eval (.Name "_law_e" p2) X.env) :: starEach [.Name "ValueError" p3] X.env := by rfl) (hpl : (backTo pos (starEach [.Name "ValueError" p3] X.env)).any (·.1) = false := by rfl)
    (hs2 : starEach [.Name "ValueError" p3] X.env = (false, eval (.Name "ValueError" p3) X.env) :: starEach [] X.env := by rfl) :
    PE X (.Call (.Name "isinstance" p1) [.Name "_law_e" p2, .Name "ValueError" p3] [] pos) (tIs X.K D a (.ty "ValueError")) :=
  pe_callB (call_isP ec hz hf hp) hg hI (by decide +kernel) (pa_cons (pe_var hN hv (by decide) (by decide)) (pa_cons (pe_bltn hg2 hm (by decide +kernel) rfl (by decide) (by decide)) pa_nil hs2) he) (he := he) (hpl := hpl)
end
/-- its reading -/
def tWh (K : Frag) (cs : Nat → Addr) (D a : Addr) : TS :=
  tSeq (tAsg (tLst (tCons (tIs K D a (.ref (cs 1))) (tCons (tIs K D a (.ref (cs 2))) (tCons (tIs K D a (.ref (cs 3))) tNil)))) (gName 1))
    (tSeq (tDrop (tBM K "list" rExtend (tVar 1) (tCons (tLst (tCons (tIs K D a (.ref (cs 4))) (tCons (tIs K D a (.ref (cs 5))) (tCons (tIs K D a (.ref (cs 6))) tNil)))) tNil)))
    (tSeq (tDrop (tBM K "list" rExtend (tVar 1) (tCons (tLst (tCons (tIs K D a (.ref (cs 7))) (tCons (tIs K D a (.ref (cs 8))) (tCons (tIs K D a (.ref (cs 9))) tNil)))) tNil)))
    (tSeq (tDrop (tBM K "list" rAppend (tVar 1) (tCons (tIs K D a (.ref (cs 10))) tNil)))
    (tSeq (tIfS (tOr (tTest (tOp rNe (tBM K "list" (rCntB K) (tVar 1) (tCons (tC (.bl true)) tNil)) (tC (.int 1)))) (tNot (tB (tIs K D a (.ty "ValueError"))))) (tRet (tTup (tCons (tC (.str "raised")) (tCons (tUn (rU fun i => .int (-i)) (tC (.int 1))) tNil)))) tNext)
    (tRet (tTup (tCons (tC (.str "raised")) (tCons (tBM K "list" (rIndex K) (tVar 1) (tCons (tC (.bl true)) tNil)) tNil))))))))
/-- what was tracked stands -/
def Grow (H H' : Hp) : Prop := ∀ b o, H b = some o → H' b = some o
theorem wh_read {K : Frag} {cs : Nat → Addr} {D a : Addr} {c : Nat} {H : Hp} {E : Ends} (h1 : 1 ≤ c) (h2 : c ≤ 10) (hv : PySem.W.kitOne K (.ref D) (.type "ValueError") = some true) (hc : ∀ j, 1 ≤ j → j ≤ 10 → PySem.W.kitOne K (.ref D) (.ref (cs j)) = some (decide (c = j)))
    (q : ∀ T H', Grow H H' → H T = none → H' T = some (.tup [.str "raised", .int ((c - 1 : Nat) : Int)]) → E.rt (.ref T) H') : tWh K cs D a E [some (.ref a), none] H := by
  have one : ∀ (j : Nat) (g1 : 1 ≤ j) (g2 : j ≤ 10) {σ : L2.St} {H : Hp} {Q : VK}, σ[0]? = some (some (.ref a)) → Q (.bl (decide (c = j))) H → tIs K D a (.ref (cs j)) σ H Q := fun j g1 g2 {σ H Q} h0 q => is_at h0 rel_ref (hc j g1 g2) q
  have isl : ∀ {p : Addr} {vs : List V} {H : Hp}, H p = some (.lst vs) → tyV K "list" (.ref p) H := fun {p vs H} h => .inl ⟨rfl, _, .inl (.inl h)⟩
  unfold tWh
  refine one 1 (by decide) (by decide) rfl (one 2 (by decide) (by decide) rfl (one 3 (by decide) (by decide) rfl ⟨by show 3 ≤ sizeLine; decide, fun p np => ?_⟩))
  refine ⟨.ref p, rfl, isl upd_same, one 4 (by decide) (by decide) rfl (one 5 (by decide) (by decide) rfl (one 6 (by decide) (by decide) rfl ⟨by show 3 ≤ sizeLine; decide, fun p2 np2 => ?_⟩))⟩
  have n2 : p ≠ p2 := ne_of_none upd_same np2
  refine ⟨p, p2, _, _, rfl, rfl, (upd_ne n2).trans upd_same, upd_same, by show 3 + 3 ≤ sizeLine; decide, ?_⟩
  refine ⟨.ref p, rfl, isl upd_same, one 7 (by decide) (by decide) rfl (one 8 (by decide) (by decide) rfl (one 9 (by decide) (by decide) rfl ⟨by show 3 ≤ sizeLine; decide, fun p3 np3 => ?_⟩))⟩
  have n3 : p ≠ p3 := ne_of_none upd_same np3
  refine ⟨p, p3, _, _, rfl, rfl, (upd_ne n3).trans upd_same, upd_same, by show 6 + 3 ≤ sizeLine; decide, ?_⟩
  refine ⟨.ref p, rfl, isl upd_same, one 10 (by decide) (by decide) rfl ?_⟩
  refine ⟨p, _, _, rfl, rfl, upd_same, by show 9 < sizeLine; decide, ?_⟩
  let bs : List Bool := [decide (c = 1), decide (c = 2), decide (c = 3), decide (c = 4), decide (c = 5), decide (c = 6), decide (c = 7), decide (c = 8), decide (c = 9), decide (c = 10)]
  have cnt : bs.count true = 1 ∧ bs.length = 10 := by
    have : c = 1 ∨ c = 2 ∨ c = 3 ∨ c = 4 ∨ c = 5 ∨ c = 6 ∨ c = 7 ∨ c = 8 ∨ c = 9 ∨ c = 10 := by omega
    rcases this with h | h | h | h | h | h | h | h | h | h <;> subst h <;> decide
  have idx : ∀ m, m < c - 1 → bs[m]? = some false := fun m hm => by
    have : c = 1 ∨ c = 2 ∨ c = 3 ∨ c = 4 ∨ c = 5 ∨ c = 6 ∨ c = 7 ∨ c = 8 ∨ c = 9 ∨ c = 10 := by omega
    have : m = 0 ∨ m = 1 ∨ m = 2 ∨ m = 3 ∨ m = 4 ∨ m = 5 ∨ m = 6 ∨ m = 7 ∨ m = 8 := by omega
    rcases this with h | h | h | h | h | h | h | h | h <;> subst h <;> simp [bs] <;> omega
  have idc : bs[c - 1]? = some true := by
    have : c = 1 ∨ c = 2 ∨ c = 3 ∨ c = 4 ∨ c = 5 ∨ c = 6 ∨ c = 7 ∨ c = 8 ∨ c = 9 ∨ c = 10 := by omega
    rcases this with h | h | h | h | h | h | h | h | h | h <;> subst h <;> rfl
  refine ⟨.ref p, rfl, isl upd_same, p, bs, rfl, rfl, .inl (.inl upd_same), ?_⟩
  refine ⟨rfl, ?_⟩
  refine ⟨_, rfl, ?_⟩
  rw [cnt.1]
  refine iteF (is_at rfl rel_ty hv ⟨true, rfl, ?_⟩)
  refine iteF ?_
  refine ⟨.ref p, rfl, isl upd_same, p, bs.map V.bl, .bl true, c - 1, .bl true, rfl, rfl, .inl (.inl upd_same), rfl, ?_, ?_, rfl, ?_, ?_⟩
  · exact List.all_eq_true.mpr fun v hv => by
      obtain ⟨b, _, rfl⟩ := List.mem_map.mp hv
      rfl
  · rw [List.getElem?_map, idc]
    rfl
  · intro m z' hm hz
    rw [List.getElem?_map, idx m hm] at hz
    cases hz
    rfl
  · refine ⟨by show 2 ≤ sizeLine; decide, fun T nT => ?_⟩
    have nTp : T ≠ p := fun z => by
      rw [z, upd_same] at nT
      cases nT
    refine q T _ (fun b o hb => ?_) ?_ upd_same
    · have d1 : b ≠ p := ne_of_none hb np
      have d2 : b ≠ p2 := fun z => by
        rw [z] at hb
        rw [upd_ne n2.symm, hb] at np2
        cases np2
      have d3 : b ≠ p3 := fun z => by
        rw [z] at hb d1 d2
        rw [upd_ne d1, upd_ne d2, upd_ne d1, hb] at np3
        cases np3
      have d4 : b ≠ T := fun z => by
        rw [z] at hb d1 d2 d3
        rw [upd_ne d1, upd_ne d1, upd_ne d3, upd_ne d1, upd_ne d2, upd_ne d1, hb] at nT
        cases nT
      rw [upd_ne d4, upd_ne d1, upd_ne d1, upd_ne d3, upd_ne d1, upd_ne d2, upd_ne d1]
      exact hb
    · cases e : H T with
      | none => rfl
      | some o =>
        have d1 : T ≠ p := nTp
        have d2 : T ≠ p2 := fun z => by
          rw [z] at e
          rw [upd_ne n2.symm, e] at np2
          cases np2
        have d3 : T ≠ p3 := fun z => by
          rw [z] at e d1 d2
          rw [upd_ne d1, upd_ne d2, upd_ne d1, e] at np3
          cases np3
        rw [upd_ne d1, upd_ne d1, upd_ne d3, upd_ne d1, upd_ne d2, upd_ne d1, e] at nT
        cases nT
end DL

set_option maxHeartbeats 4000000
/-! DLTry: try: body / except BidError as e: return which(e). -/
namespace DL
open PySem PySem.Spec PyProof.Rows L2 L2H
/-! ### the promise of the def that asks -/
/-- what the answer leaves -/
def WhEnd (c : Nat) (H : Hp) (Q : VK) : Prop := ∀ T H', Grow H H' → H T = none → H' T = some (.tup [.str "raised", .int ((c - 1 : Nat) : Int)]) → Q (.ref T) H'
structure FnW (P : Program) (w : World) (K : Frag) (mg : Str → Option Value) (base : Heap) (g : G) (k : Nat) (f : Addr) (fd : FuncData) : Prop where
  run : ∀ (c : Nat) (A : Around) (outer : List Env) (s : Shared) (H : Hp) (a : Addr) (oe : Obj) (Q : VK) (E : XK), 1 ≤ c → c ≤ 10 → RoomH k A → Zc (g.ex c) none oe → (∃ vs, oe.data = .fields vs) → PinOk outer H s (a, oe) → Env0 P w K mg base A outer s H →
    BindsTo s fd ⟨[.ref a], []⟩ ((["_law_e"] : List Str).zip [.ref a]) → WhEnd c H Q → codeAny (model P w) A (.call (.ref f) ⟨[.ref a], []⟩) (CR (L2.CX P w) outer P w H s Q E) s
theorem fnW_of {P : Program} {w : World} {K : Frag} {mg : Str → Option Value} {base : Heap} {g : G} {k : Nat} {f : Addr} {fd : FuncData} {qual : Str} {params : Arguments} {body : List Stmt} {scope : Scope} (F : FunD K "_law_which" qual params body scope [] [] f fd) (S : FnScope ["_law_e", "_law_own"] ["_law_e"] scope) (wo : WhOk K g mg)
    (cs : Nat → Addr) (hcs : ∀ j, 1 ≤ j → j ≤ 10 → g.ex j = .ref (cs j))
    (hb : ∀ (cdv : Value) (A : Around) (outer : List Env) (s : Shared) (H : Hp) (E : XK) (a : Addr) (oe : Obj) (D : Addr), RoomH k (A.deeper (envOfC qual scope s.heap.objs.size f cdv)) → ExcC K D → Zc (.ref D) none oe → (∃ vs, oe.data = .fields vs) →
      PSs (cxH (L2.CX P w) P w K mg base ["_law_e", "_law_own"] qual scope f cdv A outer s H E (a, oe)) body (tWh K cs D a)) : FnW P w K mg base g (k + 1) f fd := by
  refine ⟨fun c A outer s H a oe Q E h1 h2 hr hz hf pin e0 bt hQ => ?_⟩
  obtain ⟨oc, od, dV, kV, doc, pm, an, cdv, ct, osl, rfl, lk, hcd, -, -⟩ := F.ex
  obtain ⟨D, eD, ec, hv, hj⟩ := wo.cls c h1 h2
  rw [eD] at hz
  have KX : K.In s.heap := e0.mod.kin.keeps fun b o z => (e0.bs b o z).1
  have nl : s.heap.NoLimit := e0.mod.nolimit.keeps fun b o z => (e0.bs b o z).1
  have kinds : ∀ y ∈ (["_law_e"] : List Str).zip [Value.ref a], scope.names.lookup y.1 = some .local ∨ (scope.names.lookup y.1 = some .cell ∧ ((cellsFrom (s.heap.objs.size + 1) scope.names []).lookup y.1).isSome = true) := by
    rintro ⟨n, v⟩ hy
    have hn : n ∈ (["_law_e"] : List Str) := (List.of_mem_zip hy).1
    cases S.par n hn with
    | inl q => exact .inl q
    | inr q => exact .inr ⟨q, PySem.W.cellsFrom_some _ _ _ (.inl q)⟩
  refine codeAny_call_function hr.depth (KX _ _ lk) rfl S.co S.gen rfl (PySem.W.codeRec_of KX hcd) (bt _ _ _ _ ?_)
  refine wpAny_newFunctionEnv_cells S.kind kinds ?_
  rintro env rfl s1 x
  refine ⟨nl.keeps x.toInCall.keep, codeAny_func ?_⟩
  have I := inv_startH (CX := L2.CX P w) (E := E) (qual := qual) (f := f) (cd := cdv) S pin e0 (vs := [V.ref a]) (us := [Value.ref a]) rfl (.cons rfl .nil) x
  have rd := wh_read (K := K) (cs := cs) (D := D) (a := a) (c := c) (H := H) (E := { nx := fun _ H' => Q .non H', rt := Q }) h1 h2 hv (fun j g1 g2 => by
    have := hj j g1 g2
    rw [hcs j g1 g2] at this
    exact this) hQ
  refine wpAny_mono ((hb cdv A outer s H E a oe D (hr.deeper _) ec hz hf).run [] s1 _ H _ I rd) ?_ fun _ _ z => z
  intro fl s' z
  have fin : ∀ {σ' : L2.St} {H' : Hp} {v : V} {u : Value}, Inv (cxH (L2.CX P w) P w K mg base ["_law_e", "_law_own"] qual scope f cdv A outer s H E (a, oe)) [] σ' H' s' → RelV v u → Q v H' → CE outer P w H s Q u s' :=
    fun {σ' H' v u} J rv q => ⟨v, H', J.os, J.bare, J.base, J.hok, rv, q⟩
  match fl, z with
  | .ret u, ⟨v, σ', H', J, rv, q⟩ => exact fin J rv q
  | .next, ⟨σ', H', J, q⟩ => exact fin (v := V.non) (u := Value.none) J rfl q
  | .brk, ⟨_, _, _, q⟩ => exact False.elim q
  | .cont, ⟨_, _, _, q⟩ => exact False.elim q
/-- the def, by its name -/
structure WhD (P : Program) (w : World) (K : Frag) (mg : Str → Option Value) (base : Heap) (g : G) (k : Nat) : Prop where
  ex : ∃ f fd, FnW P w K mg base g k f fd ∧ mg "_law_which" = some (.ref f) ∧ PySem.W.keepIn K (.ref f) = true ∧ Binds K fd ["_law_e"] []
  ok : WhOk K g mg
/-- its call, in the suite -/
def tWhC (g : G) (i : Nat) (a : Addr) (cls : Value) (d : Option Addr) : TE := fun σ H Q => σ[i]? = some (some (.ref a)) ∧ d = none ∧ ∃ c, 1 ≤ c ∧ c ≤ 10 ∧ cls = g.ex c ∧ WhEnd c H Q
theorem roomH_mark {k : Nat} {X : Cx} {a : Addr} {pn : List (Addr × Obj)} (h : Room k X.A) : RoomH k (X.suite a pn).A := ⟨h.dp, h.un⟩
theorem pe_wh {X : Cx} {g : G} {k i : Nat} {n : Str} {p q pos : Pos} {a : Addr} {oe : Obj} {cls : Value} {d : Option Addr} {pn : List (Addr × Obj)} (W : WhD X.prog X.w X.K X.mg X.base g k) (hr : Room k X.A) (hz : Zc cls d oe) (hf : ∃ vs, oe.data = .fields vs) (hN : X.N[i]? = some n) (hv : Vis X.env.scope n)
    (hd : (n == ("__debug__" : Str)) = false) (hcd : (n == ("__classdict__" : Str)) = false) (hg : Gl X "_law_which") (he : starEach [.Name n p] X.env = (false, eval (.Name n p) X.env) :: starEach [] X.env) :
    PE (X.suite a ((a, oe) :: pn)) (.Call (.Name "_law_which" q) [.Name n p] [] pos) (tWhC g i a cls d) := by
  obtain ⟨f, fd, F, hm, kp, bd⟩ := W.ex
  have ha : PA (X.suite a ((a, oe) :: pn)) [.Name n p] (tCons (tVar i) tNil) := pa_cons (pe_var hN hv hd hcd) pa_nil he
  refine ⟨fun pins s σ H Q I z => ?_⟩
  obtain ⟨h0, hdn, c, h1, h2, hcl, hQ⟩ := z
  subst hdn hcl
  refine wpAny_Call_Name_kw (ld_glob I hg hm ?_ (by decide))
  refine PySem.W.callWith_K (h₀ := X.base) I.ok.mod.kin kp (thn (ha.run pos pins s σ H (fun vs H1 => vs = [.ref a] ∧ H1 = H) I ⟨.ref a, h0, rfl, rfl⟩) fun us s1 y => ?_) he rfl
  obtain ⟨vs, H1, I1, rv, e1, e2⟩ := y
  subst e1 e2
  refine ⟨I1.kIn, ?_⟩
  obtain ⟨u, rfl, ru⟩ := rv.one
  cases ru
  have P1 := I1.pin (a, oe) (List.mem_append_left _ List.mem_cons_self)
  have pin : PinOk X.stack H1 s1 (a, oe) := ⟨P1.1, P1.2.1, fun hm => (List.mem_cons.mp (I1.stkSub a hm)).elim P1.2.2.1 P1.2.2.2.1, P1.2.2.2.2⟩
  have bt := bd s1 [Value.ref a] I1.kIn rfl
  rw [List.append_nil] at bt
  refine wpAny_call (codeAny_mono (F.run c (X.suite a ((a, oe) :: pn)).A X.stack s1 H1 a oe Q (fun _ _ _ => False) h1 h2 (roomH_mark hr) hz hf pin I1.env0 bt hQ) ?_)
  intro r s' hq
  match r, hq with
  | .error e, ⟨_, _, _, _, _, _, _, _, _, _, _, _, z⟩ => exact z.elim
  | .ok (.ret u), hq => exact I1.after hq
  | .ok .next, hq => exact False.elim hq
  | .ok .brk, hq => exact False.elim hq
  | .ok .cont, hq => exact False.elim hq
/-! ### the statement -/
/-- the answer of the handler -/
def whD (c : Nat) : D := .tuple [.str "raised", .int ((c - 1 : Nat) : Int)]
def sTry (f : DS) : DS := fun sd μ => match f sd μ with
  | .exc c μ' => if 1 ≤ c ∧ c ≤ 10 then .ok (.ret (whD c)) μ' else .bad
  | r => r
@[simp] theorem e_try (f : DS) (sd : Slots) (μ : Mu) : sTry f sd μ = match f sd μ with
  | .exc c μ' => if 1 ≤ c ∧ c ≤ 10 then .ok (.ret (whD c)) μ' else .bad
  | r => r := rfl
/-- more is tracked -/
theorem Sim.grow {K : Frag} {g : G} {w : Wd} {μ : Mu} {H' : Hp} (S : Sim K g w μ) (gr : Grow w.H H') : Sim K g ⟨w.as, w.F, H'⟩ μ ∧ Le w ⟨w.as, w.F, H'⟩ := by
  refine ⟨⟨fun b o e => gr b o (S.sub b o e), S.nd, S.len, fun k c e => ?_⟩, ⟨.refl _, .refl _, fun _ _ e => .inl e, fun b o e _ => gr b o e, fun _ e => .inl e, fun b e => ?_⟩⟩
  · obtain ⟨a, e1, f1, x1⟩ := S.cell k c e
    obtain ⟨o, ho⟩ := x1.some
    exact ⟨a, e1, f1, Sim.cellMono (w := w) (.refl _) (.refl _) ((gr a o ho).trans ho.symm) x1⟩
  · cases q : w.H b with
    | none => rfl
    | some o =>
      have e : H' b = none := e
      rw [gr b o q] at e
      cases e
/-- a tracked tuple stands for good -/
theorem Sim.stand {K : Frag} {g : G} {w0 w : Wd} {μ : Mu} {T : Addr} {vs : List V} (S : Sim K g w μ) (l : Le w0 w) (h0 : w0.H T = none) (hF : w.F T = none) (hn : T ∉ w.as) (hT : w.H T = some (.tup vs)) :
    Sim K g ⟨w.as, upd w.F T (.tup vs), w.H⟩ μ ∧ Le w0 ⟨w.as, upd w.F T (.tup vs), w.H⟩ ∧ Wk w ⟨w.as, upd w.F T (.tup vs), w.H⟩ := by
  have e : Ex w.F (upd w.F T (.tup vs)) := Ex.new hF
  refine ⟨⟨fun b o q => ?_, S.nd, S.len, fun k c q => ?_⟩, ⟨l.pre, l.ex.trans e, fun b o q => ?_, l.keep, l.news, l.mono⟩, ⟨.refl _, e⟩⟩
  · have q : (upd w.F T (.tup vs)) b = some o := q
    by_cases hp : b = T
    · subst hp
      rw [upd_same] at q
      cases q
      exact hT
    · rw [upd_ne hp] at q
      exact S.sub b o q
  · obtain ⟨a, e1, f1, x1⟩ := S.cell k c q
    have hp : a ≠ T := fun z => hn (by rw [← z]; exact List.mem_of_getElem? e1)
    exact ⟨a, e1, (upd_ne hp).trans f1, Sim.cellMono (w := w) (.refl _) e rfl x1⟩
  · have q : (upd w.F T (.tup vs)) b = some o := q
    by_cases hp : b = T
    · exact .inr (by rw [hp]; exact h0)
    · rw [upd_ne hp] at q
      exact l.fresh b o q
section
variable {X : Cx} {g : G}
theorem takes_len {W : WX} {pn : List (Addr × Obj)} {xe : Value → Shared → Prop} (tk : Takes (X.tr pn xe) W) : Takes (X.tr pn xe) (fun cls d σ H => σ.length = X.N.length → W cls d σ H) := fun u s' z => by
  obtain ⟨a, B, sI, pins, σ, H, cls, d, e, I, nb, up, sky, na, os, ag, q⟩ := z
  exact tk u s' ⟨a, B, sI, pins, σ, H, cls, d, e, I, nb, up, sky, na, os, ag, q I.len⟩
abbrev tAllT (X : Cx) (tb : WX → List (Addr × Obj) → (Value → Shared → Prop) → TS) (W : WX) : TS := fun D σ H => ∀ (pn : List (Addr × Obj)) (xe : Value → Shared → Prop), Takes (X.tr pn xe) W → tb W pn xe D σ H
abbrev lenW (n : Nat) (W : WX) : WX := fun cls d σ H => σ.length = n → W cls d σ H
abbrev tTry (X : Cx) (g : G) (i : Nat) (E : XK) (tb : WX → List (Addr × Obj) → (Value → Shared → Prop) → TS) : TS := fun D σ H =>
  tAllT X tb (lenW X.N.length (wAs X.K ((X.mg "BidError").getD .none) i (fun a cls d => tRet (tWhC g i a cls d)) (fun cls d _ H => E cls d H) D)) D σ H
theorem s_try {E : XK} {k i : Nat} {n : Str} {np p1 p2 p3 p4 pos pos' : Pos} {body : List Stmt} {tb : WX → List (Addr × Obj) → (Value → Shared → Prop) → TS} {f : DS} (Wh : WhD X.prog X.w X.K X.mg X.base g k) (hr : Room k X.A) (hN : X.N.Nodup) (tk : Takes X (fun cls d _ H => E cls d H))
    (hb : ∀ (W : WX) (pn : List (Addr × Obj)) (xe : Value → Shared → Prop), Takes (X.tr pn xe) W → PBD (X.tr pn xe) g W body (tb W pn xe) f)
    (hi : X.N[i]? = some n := by rfl) (hs : X.stack = X.env :: X.outer := by rfl) (hf : X.env.frame = some X.env.locals := by rfl) (hln : X.env.kindOf n = some .local := by rfl) (hgB : Gl X "BidError" := by rfl) (hgW : Gl X "_law_which" := by rfl)
    (hd : (n == ("__debug__" : Str)) = false := by decide) (hcd : (n == ("__classdict__" : Str)) = false := by decide) (he : starEach [.Name n p2] X.env = (false, eval (.Name n p2) X.env) :: starEach [] X.env := by rfl) :
    PSD X g (fun cls d _ H => E cls d H) (.Try body [.ExceptHandler (some (.Name "BidError" np)) (some n) [.Return (some (.Call (.Name "_law_which" p1) [.Name n p2] [] p3)) p4] pos'] [] [] pos) (tTry X g i E tb) (sTry f) := by
  obtain ⟨B, mB, hB⟩ := Wh.ok.base
  have ec : (X.mg "BidError").getD .none = .ref B := by rw [mB]; rfl
  have nm : Names X "BidError" ((X.mg "BidError").getD .none) := ⟨hgB, by decide, .inl (by rw [ec]; exact mB)⟩
  refine ⟨ps_try_as (tb := fun W => tAllT X tb (lenW X.N.length W)) hs hf hN hi hln nm tk (fun W pn xe t po => ⟨fun pins s σ H D I z => (hb _ pn xe (takes_len t)).pss.run pins s σ H D I (z pn xe (takes_len t))⟩) fun a oe cls d pn hz hfl => pss_one (ps_ret (pe_wh Wh hr hz hfl hi (.inl hln) hd hcd hgW he)), ?_⟩
  intro w0 sd μ w σ l SS S D q pn xe t
  refine (hb _ pn xe t).ev w0 sd μ w σ l SS S D ?_
  unfold sTry at q
  cases e : f sd μ with
  | ok fl μ' =>
    rw [e] at q
    match fl, q with
    | .next sd', q => exact q
    | .ret d, q => exact q
  | bad =>
    rw [e] at q
    exact q.elim
  | exc c μ' =>
    rw [e] at q
    by_cases hc : 1 ≤ c ∧ c ≤ 10
    · have q : Wants X.K g (fun cls d _ H => E cls d H) w0 w D (.ok (.ret (whD c)) μ') := by
        simpa [hc] using q
      intro w' σ' l' k' S' hl
      refine ⟨true, by rw [ec]; exact hB c hc.1 hc.2, fun _ a na => ?_, fun z => by cases z⟩
      have hlt : i < σ'.length := by
        rw [hl]
        exact (List.getElem?_eq_some_iff.mp hi).1
      refine ⟨List.getElem?_set_self hlt, rfl, c, hc.1, hc.2, rfl, fun T H' gr hT hT' => ?_⟩
      obtain ⟨S2, l2⟩ := S'.grow gr
      have nF : w'.F T = none := S'.sub.none hT
      have nA : T ∉ w'.as := S'.notas hT
      obtain ⟨S3, l3, k3⟩ := Sim.stand S2 l2 hT nF nA hT'
      exact q ⟨w'.as, upd w'.F T (.tup [.str "raised", .int ((c - 1 : Nat) : Int)]), H'⟩ (.ref T) (l'.trans l3) (k'.trans l3.wk) S3 (.tup (.inl (.inl upd_same)) (.cons (.str _) (.cons (.int _) .nil)))
    · have q : Wants X.K g (fun cls d _ H => E cls d H) w0 w D .bad := by
        simpa [hc] using q
      exact q.elim
end
end DL

set_option maxHeartbeats 4000000
/-! DLPick: [f, g, ..][i](e, ..); parts that are not told. -/
namespace DL
open PySem PySem.Spec PyProof.Rows L2
section
variable {X : Cx} {g : G} {W : WX} {pos : Pos}
/-- names of defs, written in a list -/
inductive Defs (X : Cx) (g : G) (n : Nat) : List Expr → List DF → Prop
  | nil : Defs X g n [] []
  | cons {k : Nat} {x : Str} {p : Pos} {es : List Expr} {F : DF} {Fs : List DF} (hF : FnD X.prog X.w X.K X.mg X.base g x k n F) (hr : Room k X.A) (t : Defs X g n es Fs) (hg : Gl X x := by rfl) (hd : (x == ("__debug__" : Str)) = false := by decide)
      (he : starEach (.Name x p :: es) X.env = (false, eval (.Name x p) X.env) :: starEach es X.env := by rfl) : Defs X g n (.Name x p :: es) (F :: Fs)
def HeldD (X : Cx) (g : G) (n : Nat) (f : Addr) (F : DF) : Prop := ∃ (k : Nat) (fd : FuncData) (ps : List Str), FnOk X.prog X.w X.K X.mg X.base (L2.CX X.prog X.w) k f fd ps (spD X.K g n F) ∧ Room k X.A ∧ PySem.W.keepIn X.K (.ref f) = true ∧ Binds X.K fd ps []
def tRefs (fs : List Addr) : TA := fun _ H Q => Q (fs.map V.ref) H
theorem Defs.read {n : Nat} : ∀ {es : List Expr} {Fs : List DF}, Defs X g n es Fs → ∃ fs : List Addr, PA X es (tRefs fs) ∧ fs.length = Fs.length ∧ ∀ (i : Nat) f F, fs[i]? = some f → Fs[i]? = some F → HeldD X g n f F
  | _, _, .nil => ⟨[], pa_nil, rfl, fun i f F e => by simp at e⟩
  | _, _, .cons hF hr t hg hd he => by
    obtain ⟨fs, pa, hl, hh⟩ := t.read
    obtain ⟨f, fd, ps, l, G, hm, hk, hb⟩ := hF.ex
    refine ⟨f :: fs, pa_cons (pe_glob hg hm (v := .ref f) rfl hd) pa he, by simp [hl], fun i f' F' e1 e2 => ?_⟩
    cases i with
    | zero =>
      simp at e1 e2
      subst e1 e2
      exact ⟨_, fd, ps, G, hr, hk, hb⟩
    | succ i => exact hh i f' F' (by simpa using e1) (by simpa using e2)
/-- a call of what an expression gives -/
def tCallE (X : Cx) (g : G) (n : Nat) (W : WX) (tf : TE) (t : TA) : TE := fun σ H Q => tf σ H fun v H1 => ∃ f F, v = .ref f ∧ HeldD X g n f F ∧ t σ H1 fun vs H2 => spD X.K g n F vs H2 Q (WE W σ)
theorem pe_callE {fe e : Expr} {es : List Expr} {n : Nat} {tf : TE} {t : TA} (tk : Takes X W) (hf : PE X fe tf) (ha : PA X (e :: es) t)
    (ht : eval (.Call fe (e :: es) [] pos) X.env = (do callWith pos (← eval fe X.env) [] (backTo pos (starEach (e :: es) X.env)) (backToKw pos (keywordEach [] X.env))) := by rfl)
    (he : starEach (e :: es) X.env = (false, eval e X.env) :: starEach es X.env := by rfl) (hpl : (backTo pos (starEach es X.env)).any (·.1) = false := by rfl) : PE X (.Call fe (e :: es) [] pos) (tCallE X g n W tf t) := by
  refine ⟨fun pins s σ H Q I h => ?_⟩
  rw [ht]
  refine wpAny_bind (thn (hf.run pins s σ H _ I h) fun u s0 ⟨v, H0, I0, r0, f, F, ev, ⟨k, fd, ps, G, hr, hk, hb⟩, q0⟩ => ?_)
  subst ev
  obtain rfl : u = Value.ref f := r0
  refine PySem.W.callWith_K (h₀ := X.base) I0.ok.mod.kin hk (thn (ha.run pos pins s0 σ H0 _ I0 q0) fun us s1 ⟨vs, H1, I1, r, q⟩ => ⟨I1.kIn, ?_⟩) he hpl
  exact run_fnS G hr hb (passAt tk σ) I1 r q
def tPick (X : Cx) (g : G) (n : Nat) (W : WX) (fs : List Expr) (ti : TE) (ta : TA) : TE := fun σ H Q => ∃ as, PA X fs (tRefs as) ∧ tCallE X g n W (tOp (rIx X.K) (tLst (tRefs as)) ti) ta σ H Q
def dPick (Fs : List DF) (fi : DE) (fa : DA) : DE := fun sd μ => (fi sd μ).bind fun d μ1 => match d with
  | .int i => if 0 ≤ i then match Fs[i.toNat]? with
    | some F => (fa sd μ1).bind fun ds μ2 => F ds μ2
    | none => .bad
    else .bad
  | _ => .bad
theorem d_pick {n : Nat} {ix e : Expr} {fs es : List Expr} {Fs : List DF} {p1 p2 : Pos} {ti : TE} {ta : TA} {fi : DE} {fa : DA} (hF : Defs X g n fs Fs) (tk : Takes X W) (hi : PED X g W ix ti fi) (ha : PAD X g W (e :: es) ta fa) (hn : LenA n fa := by first | exact .cons .nil | exact .cons (.cons .nil) | exact .cons (.cons (.cons .nil)))
    (hl : Fs.length ≤ 1000 := by decide) (hs : PlainIx ix := by intro _ _; rfl)
    (ht : eval (.Call (.Subscript (.List fs p1) ix p2) (e :: es) [] pos) X.env = (do callWith pos (← eval (.Subscript (.List fs p1) ix p2) X.env) [] (backTo pos (starEach (e :: es) X.env)) (backToKw pos (keywordEach [] X.env))) := by rfl)
    (he : starEach (e :: es) X.env = (false, eval e X.env) :: starEach es X.env := by rfl) (hpl : (backTo pos (starEach es X.env)).any (·.1) = false := by rfl) :
    PED X g W (.Call (.Subscript (.List fs p1) ix p2) (e :: es) [] pos) (tPick X g n W fs ti ta) (dPick Fs fi fa) := by
  obtain ⟨as, pa, al, hh⟩ := hF.read
  refine ⟨⟨fun pins s σ H Q I h => ?_⟩, fun H0 sd μ w σ SS S => ?_⟩
  · obtain ⟨as, pa, h⟩ := h
    exact (pe_callE (g := g) (n := n) tk (pe_ix ix_seq (pe_lst pa) hi.pe hs) ha.pa ht he hpl).run pins s σ H Q I h
  unfold dPick
  have key : ∀ (Q : VK), (∀ p, w.H p = none → ti σ (upd w.H p (.lst (as.map V.ref))) (fun y H2 => rIx X.K (.ref p) y H2 (fun v H1 => ∃ f F, v = .ref f ∧ HeldD X g n f F ∧ ta σ H1 fun vs H2 => spD X.K g n F vs H2 Q (WE W σ)))) →
      tPick X g n W fs ti ta σ w.H Q := fun Q h => ⟨as, pa, by rw [List.length_map, al]; exact sizeL (by omega), h⟩
  have S0 (p : Addr) (hp : w.H p = none) : Sim X.K g (w.lay p (.lst (as.map V.ref))) μ := S.lay (S.sub.none hp) (S.notas hp)
  have z (p : Addr) (hp : w.H p = none) := hi.ev H0 sd μ (w.lay p (.lst (as.map V.ref))) σ (SS.le (S.layLe hp)) (S0 p hp)
  cases e1 : fi sd μ with
  | bad => trivial
  | exc c μ1 =>
    rw [e1] at z
    exact fun Q q => key Q fun p hp => z p hp _ fun w' l' S' => q w' ((S.layLe hp).trans l') S'
  | ok d μ1 =>
    rw [e1] at z
    simp only [Res.bind_ok]
    split
    · rename_i i
      split
      · rename_i hi0
        split
        · rename_i F eF
          have hlt : i.toNat < as.length := by rw [al]; exact (List.getElem?_eq_some_iff.mp eF).1
          have hf := hh i.toNat as[i.toNat] F (List.getElem?_eq_getElem hlt) eF
          have at1 : atI (as.map V.ref) i = some (.ref as[i.toNat]) := by
            unfold atI ixN
            rw [if_pos hi0, List.length_map, if_pos (by omega)]
            show (as.map V.ref)[i.toNat]? = _
            rw [List.getElem?_map, List.getElem?_eq_getElem hlt]
            rfl
          -- the index read, the arguments follow
          have fin : ∀ (Q : VK), (∀ p, w.H p = none → ∀ w1, Le (w.lay p (.lst (as.map V.ref))) w1 → Sim X.K g w1 μ1 → ta σ w1.H fun vs H2 => spD X.K g n F vs H2 Q (WE W σ)) → tPick X g n W fs ti ta σ w.H Q := fun Q h => key Q fun p hp => z p hp _ fun w1 x l1 S1 rx => by
            rw [rx.intV]
            have hk : w1.H p = some (.lst (as.map V.ref)) := l1.keep p _ upd_same (S.notas hp)
            exact .inl ⟨p, _, i, _, rfl, rfl, sqL_of hk, at1, _, F, rfl, hf, h p hp w1 l1 S1⟩
          have y (w1 : Wd) (l1 : Le w w1) (S1 : Sim X.K g w1 μ1) := ha.ev H0 sd μ1 w1 σ (SS.le l1) S1
          cases e2 : fa sd μ1 with
          | bad => trivial
          | exc c μ2 =>
            rw [e2] at y
            exact fun Q q => fin Q fun p hp w1 l1 S1 => y w1 ((S.layLe hp).trans l1) S1 _ fun w' l' S' => q w' (((S.layLe hp).trans l1).trans l') S'
          | ok ds μ2 =>
            rw [e2] at y
            have hlen := hn sd μ1 ds μ2 e2
            simp only [Res.bind_ok]
            cases e3 : F ds μ2 with
            | bad => trivial
            | ok d μ3 => exact fun Q q => fin Q fun p hp w1 l1 S1 => y w1 ((S.layLe hp).trans l1) S1 _ fun w2 vs l2 S2 ra => ⟨ds, μ2, w2, rfl, by rw [RpA.length ra]; exact hlen, S2, ra, by rw [e3]; exact fun w' v l' S' r => q w' v ((((S.layLe hp).trans l1).trans l2).trans l') S' r⟩
            | exc c μ3 => exact fun Q q => fin Q fun p hp w1 l1 S1 => y w1 ((S.layLe hp).trans l1) S1 _ fun w2 vs l2 S2 ra => ⟨ds, μ2, w2, rfl, by rw [RpA.length ra]; exact hlen, S2, ra, by rw [e3]; exact fun w' l' S' => q w' ((((S.layLe hp).trans l1).trans l2).trans l') S'⟩
        · trivial
      · trivial
    · trivial
/-! ### parts that are not told -/
def sBad : DS := fun _ _ => .bad
def dBad : DE := fun _ _ => .bad
theorem s_bad {st : Stmt} : PSD X g W st (fun _ _ _ => False) sBad := ⟨⟨fun _ _ _ _ _ _ h => h.elim⟩, fun _ _ _ _ _ _ _ _ _ q => q.elim⟩
theorem b_bad {st : List Stmt} : PBD X g W st (fun _ _ _ => False) sBad := ⟨⟨fun _ _ _ _ _ _ h => h.elim⟩, fun _ _ _ _ _ _ _ _ _ q => q.elim⟩
theorem d_bad {e : Expr} : PED X g W e (fun _ _ _ => False) dBad := ⟨⟨fun _ _ _ _ _ _ h => h.elim⟩, fun _ _ _ _ _ _ _ => trivial⟩
end
end DL

set_option maxHeartbeats 4000000
/-! DLObj: instances of a class of the module: made, read, written, asked. -/
namespace DL
open PySem PySem.Spec PyProof.Rows L2
/-- the class that the store's instances have -/
structure HallD (K : Frag) (mg : Str → Option Value) (g : G) (x : Str) (fs : List Str) : Prop where
  mg_ : mg x = some (.ref g.C)
  cls : Cls K g.C
  no : ∀ f ∈ fs, NoAttr K g.C f
/-- a method -/
structure FnM (P : Program) (w : World) (K : Frag) (mg : Str → Option Value) (base : Heap) (g : G) (m : Str) (k n : Nat) (F : DF) : Prop where
  ex : ∃ f fd ps, ps.length = n ∧ FnOk P w K mg base (L2.CX P w) k f fd ps (spD K g n F) ∧ Meth K g.C m f ∧ Binds K fd ps []
/-- __init__ -/
structure FnI (P : Program) (w : World) (K : Frag) (mg : Str → Option Value) (base : Heap) (g : G) (x : Str) (k n : Nat) (F : DF) : Prop where
  mg_ : mg x = some (.ref g.C)
  ex : ∃ f fd ps, ps.length = n ∧ FnOk P w K mg base (L2.CX P w) k f fd ps (spD K g n F) ∧ Mk K g.C f ∧ Binds K fd ps []
section
variable {X : Cx} {g : G} {W : WX} {a b c e o : Expr} {es : List Expr} {ta tb tc te : TE} {t : TA} {fa fb fc fe : DE} {fs : DA} {pos apos : Pos}
/-! ### made -/
theorem run_makeS {CX : CXT} {k : Nat} {f C : Addr} {fd : FuncData} {ps : List Str} {sp : Sp} {E : L2.St → XK} {pins : List (Addr × Obj)} {σ : L2.St} {H : Hp} {s : Shared} {Q : VK} {us : List Value} {vs : List V} (M : Mk X.K C f) (F : FnOk X.prog X.w X.K X.mg X.base CX k f fd ps sp) (hr : Room (k + 1) X.A) (hb : Binds X.K fd ps [])
    (hx : PassesAt CX X σ (E σ)) (I : Inv X pins σ H s) (r : Vals vs us)
    (h : ∀ x dx, H x = none → H dx = none → dx ≠ x → sp (.ref x :: vs) (upd (upd H dx (.own x)) x (.ins C dx [])) (fun v H2 => v = .non ∧ Q (.ref x) H2) (E σ)) :
    wpAny (model X.prog X.w) X.A (call (.ref C) us) (EP X pins σ Q) X.xe s := by
  have hq := h (s.heap.objs.size + 1) s.heap.objs.size (I.hok.fresh (Nat.le_succ _)) (I.hok.fresh (Nat.le_refl _)) (Nat.ne_of_lt (Nat.lt_succ_self _))
  have I2 := Inv.made (C := C) I
  have r2 : Vals (V.ref (s.heap.objs.size + 1) :: vs) (Value.ref (s.heap.objs.size + 1) :: us) := .cons rfl r
  have hl : (Value.ref (s.heap.objs.size + 1) :: us ++ []).length = ps.length := by
    have e := r2.length
    rw [F.len _ _ _ _ hq] at e
    rw [List.append_nil]
    exact e.symm
  have bb := hb _ (Value.ref (s.heap.objs.size + 1) :: us) I2.kIn hl
  rw [List.append_nil] at bb
  refine wpAny_call (make_map (f := f) I.kIn M.makes M.init (beq_iff_eq.mp M.fn) (codeAny_mono (F.run _ X.stack _ _ ⟨Value.ref (s.heap.objs.size + 1) :: us, []⟩ (Value.ref (s.heap.objs.size + 1) :: us) _ _ (E σ) (hr.make C us [])
    (I2.env0.make C us []) bb r2 hq) fun r s' hq' => ?_))
  cases r with
  | error e => exact hx pins _ _ e s' I2 hq'
  | ok fl =>
    cases fl with
    | ret u =>
      obtain ⟨v, H', I3, rv, ev, q3⟩ := I2.after hq'
      subst ev
      exact ⟨rv, ⟨V.ref (s.heap.objs.size + 1), H', I3, rfl, q3⟩⟩
    | next => exact False.elim hq'
    | brk => exact False.elim hq'
    | cont => exact False.elim hq'
def tMakeS (C : Addr) (sp : Sp) (E : L2.St → XK) (t : TA) : TE := fun σ H Q => t σ H fun vs H1 => ∀ x dx, H1 x = none → H1 dx = none → dx ≠ x → sp (.ref x :: vs) (upd (upd H1 dx (.own x)) x (.ins C dx [])) (fun v H2 => v = .non ∧ Q (.ref x) H2) (E σ)
theorem pe_makeS {CX : CXT} {k : Nat} {f C : Addr} {fd : FuncData} {ps : List Str} {sp : Sp} {E : L2.St → XK} {x : Str} {p : Pos} (M : Mk X.K C f) (F : FnOk X.prog X.w X.K X.mg X.base CX k f fd ps sp) (hr : Room (k + 1) X.A) (hg : Gl X x) (hm : X.mg x = some (.ref C)) (hb : Binds X.K fd ps []) (hx : ∀ σ, PassesAt CX X σ (E σ))
    (ha : PA X (e :: es) t) (hdb : (x == ("__debug__" : Str)) = false := by decide) (he : starEach (e :: es) X.env = (false, eval e X.env) :: starEach es X.env := by rfl) (hpl : (backTo pos (starEach es X.env)).any (·.1) = false := by rfl) :
    PE X (.Call (.Name x p) (e :: es) [] pos) (tMakeS C sp E t) := by
  refine ⟨fun pins s σ H Q I h => ?_⟩
  refine wpAny_Call_Name_kw (ld_glob I hg hm ?_ hdb)
  refine PySem.W.callWith_K (h₀ := X.base) I.ok.mod.kin M.kp (thn (ha.run pos pins s σ H _ I h) fun us s1 ⟨vs, H1, I1, r, q⟩ => ⟨I1.kIn, ?_⟩) he hpl
  exact run_makeS M F hr hb (hx σ) I1 r q
/-- a new instance joins the store -/
theorem new_cell {K : Frag} {w : Wd} {μ : Mu} {x dx : Addr} (S : Sim K g w μ) (hx : w.H x = none) (hd : w.H dx = none) (hne : dx ≠ x) :
    Le w ⟨w.as ++ [x], w.F, upd (upd w.H dx (.own x)) x (.ins g.C dx [])⟩ ∧ Sim K g ⟨w.as ++ [x], w.F, upd (upd w.H dx (.own x)) x (.ins g.C dx [])⟩ (μ ++ [.ins []]) ∧ (w.as ++ [x])[μ.length]? = some x := by
  have pre : Pre w.as (w.as ++ [x]) := fun k a h => by rw [List.getElem?_append_left (List.getElem?_eq_some_iff.mp h).1]; exact h
  have top : (w.as ++ [x])[μ.length]? = some x := by rw [← S.len, List.getElem?_append_right (Nat.le_refl _)]; simp
  have old {b : Addr} {u : HO} (h : w.H b = some u) : (upd (upd w.H dx (.own x)) x (.ins g.C dx [])) b = some u := by
    rw [upd_ne (ne_of_none h hx), upd_ne (ne_of_none h hd)]
    exact h
  have nx : x ∉ w.as := S.notas hx
  refine ⟨⟨pre, .refl _, fun a o h => .inl h, fun a o h _ => old h, fun a h => ?_, fun a h => ?_⟩, ⟨fun a u h => old (S.sub a u h), fun j k a hj hk => ?_, by simp [S.len], fun k c ek => ?_⟩, top⟩
  · have h : a ∈ w.as ++ [x] := h
    rcases List.mem_append.mp h with h | h
    · exact .inl h
    · rw [show a = x by simpa using h]
      exact .inr hx
  · cases q : w.H a with
    | none => rfl
    | some o =>
      have h : (upd (upd w.H dx (.own x)) x (.ins g.C dx [])) a = none := h
      rw [old q] at h
      cases h
  · have get : ∀ (j : Nat) (b : Addr), (w.as ++ [x])[j]? = some b → w.as[j]? = some b ∨ (j = w.as.length ∧ b = x) := fun j b h => by
      rcases Nat.lt_or_ge j w.as.length with hlt | hge
      · rw [List.getElem?_append_left hlt] at h
        exact .inl h
      · rw [List.getElem?_append_right hge] at h
        have := (List.getElem?_eq_some_iff.mp h).1
        have hj : j = w.as.length := by simp at this; omega
        subst hj
        simp at h
        exact .inr ⟨rfl, h.symm⟩
    rcases get j a hj with hj' | ⟨rfl, rfl⟩ <;> rcases get k a hk with hk' | ⟨rfl, z⟩
    · exact S.nd j k a hj' hk'
    · subst z; exact absurd (List.mem_of_getElem? hj') nx
    · exact absurd (List.mem_of_getElem? hk') nx
    · rfl
  · rcases Nat.lt_or_ge k μ.length with hlt | hge
    · rw [List.getElem?_append_left hlt] at ek
      obtain ⟨b, e1, f1, x1⟩ := S.cell k c ek
      obtain ⟨u, hu⟩ := x1.some
      exact ⟨b, pre _ _ e1, f1, Sim.cellMono (w := w) pre (.refl _) ((old hu).trans hu.symm) x1⟩
    · rw [List.getElem?_append_right hge] at ek
      have hk : k = μ.length := by
        have := (List.getElem?_eq_some_iff.mp ek).1
        simp at this
        omega
      subst hk
      simp at ek
      subst ek
      exact ⟨x, top, S.sub.none hx, dx, [], upd_same, .nil⟩
def dMake (F : DF) (fs : DA) : DE := fun sd μ => (fs sd μ).bind fun ds μ1 => (F (tok μ1.length :: ds) (μ1 ++ [.ins []])).bind fun d μ2 => match d with
  | .none => .ok (tok μ1.length) μ2
  | _ => .bad
theorem d_make {k n : Nat} {F : DF} {x : Str} {p : Pos} (hF : FnI X.prog X.w X.K X.mg X.base g x k (n + 1) F) (hr : Room (k + 1) X.A) (tk : Takes X W) (ha : PAD X g W (e :: es) t fs) (hn : LenA n fs := by first | exact .cons .nil | exact .cons (.cons .nil))
    (hg : Gl X x := by rfl) (hdb : (x == ("__debug__" : Str)) = false := by decide) (he : starEach (e :: es) X.env = (false, eval e X.env) :: starEach es X.env := by rfl) (hpl : (backTo pos (starEach es X.env)).any (·.1) = false := by rfl) :
    PED X g W (.Call (.Name x p) (e :: es) [] pos) (tMakeS g.C (spD X.K g (n + 1) F) (WE W) t) (dMake F fs) := by
  obtain ⟨hm, f, fd, ps, hl, G, M, hb⟩ := hF
  refine ⟨pe_makeS M G hr hg hm hb (fun σ => passAt tk σ) ha.pa hdb he hpl, fun H0 sd μ w σ SS S => ?_⟩
  have z := ha.ev H0 sd μ w σ SS S
  unfold dMake
  cases e1 : fs sd μ with
  | exc c μ1 =>
    rw [e1] at z
    exact fun Q q => z _ q
  | bad => trivial
  | ok ds μ1 =>
    rw [e1] at z
    have hlen := hn sd μ ds μ1 e1
    simp only [Res.bind_ok]
    cases e2 : F (tok μ1.length :: ds) (μ1 ++ [.ins []]) with
    | bad => trivial
    | ok d μ2 =>
      simp only [Res.bind_ok]
      split
      · refine fun Q q => z _ fun w1 vs l1 S1 ra y dy hy hdy hne => ?_
        obtain ⟨l2, S2, top⟩ := new_cell S1 hy hdy hne
        refine ⟨tok μ1.length :: ds, _, _, rfl, by rw [List.length_cons, RpA.length ra, hlen], S2, .cons (.tok top) (ra.le l2), ?_⟩
        rw [e2]
        exact fun w' v l' S' r => ⟨r.nonV, q w' _ ((l1.trans l2).trans l') S' (.tok (l'.pre _ _ top))⟩
      · trivial
    | exc c μ2 =>
      refine fun Q q => z _ fun w1 vs l1 S1 ra y dy hy hdy hne => ?_
      obtain ⟨l2, S2, top⟩ := new_cell S1 hy hdy hne
      refine ⟨tok μ1.length :: ds, _, _, rfl, by rw [List.length_cons, RpA.length ra, hlen], S2, .cons (.tok top) (ra.le l2), ?_⟩
      rw [e2]
      exact fun w' l' S' => q w' ((l1.trans l2).trans l') S'
/-! ### read -/
def lookD (d : D) (μ : Mu) (f : Str) : Option D := match d with
  | .dict [(.none, .int k)] => match μ[k.toNat]? with
    | some (.ins fs) => fs.lookup f
    | _ => none
  | _ => none
def dFld (f : Str) (fa : DE) : DE := fun sd μ => (fa sd μ).bind fun d μ1 => lift (lookD d μ1 f) μ1
theorem FsAt.look {K : Frag} {as : List Addr} {F : Hp} {f : Str} : ∀ {vfs : List (Str × V)} {dfs : List (Str × D)}, FsAt K as F vfs dfs → ∀ {d : D}, dfs.lookup f = some d → ∃ v, vfs.lookup f = some v ∧ Rp K as F v d
  | _, _, .nil, d, h => by simp at h
  | (x, v) :: vs, (y, d') :: ds, .cons ⟨e1, r⟩ t, d, h => by
    have e1 : x = y := e1
    subst e1
    rw [List.lookup_cons] at h ⊢
    cases c : f == x with
    | true =>
      rw [c] at h
      cases h
      exact ⟨v, rfl, r⟩
    | false =>
      rw [c] at h
      exact FsAt.look t h
theorem d_fld {x : Str} {f : Str} {ns : List Str} (hH : HallD X.K X.mg g x ns) (hf : f ∈ ns) (ha : PED X g W a ta fa) (hb : attributeBase a f X.env (eval a X.env) = eval a X.env := by rfl) : PED X g W (.Attribute a f pos) (tFld X.K ta f) (dFld f fa) := ⟨pe_fld ha.pe hb, fun H0 sd μ w σ SS S => by
  refine Out.bind (T1 := fun x H1 Q => ∃ a C dx fs v, x = .ref a ∧ H1 a = some (.ins C dx fs) ∧ Cls X.K C ∧ NoAttr X.K C f ∧ fs.lookup f = some v ∧ Q v H1) (ha.ev H0 sd μ w σ SS S) fun d μ1 w1 x l1 S1 r => Out.lift fun v hv => ?_
  unfold lookD at hv
  split at hv
  · rename_i k
    split at hv
    · rename_i dfs e0
      obtain ⟨p, rfl, ep⟩ := Rp.tokI r
      obtain ⟨p', ep', hF, dx, vfs, hH', rf⟩ := S1.cell _ _ e0
      rw [ep] at ep'
      cases ep'
      obtain ⟨y, hy, ry⟩ := FsAt.look rf hv
      exact Out.ok S1 ry fun Q q => ⟨p, g.C, dx, vfs, y, rfl, hH', hH.cls, hH.no f hf, hy, q⟩
    · cases hv
  · cases hv⟩
/-! ### written -/
def putD (f : Str) (v : D) : List (Str × D) → List (Str × D)
  | [] => [(f, v)]
  | (g, x) :: r => if g = f then (g, v) :: r else (g, x) :: putD f v r
theorem FsAt.put {K : Frag} {as : List Addr} {F : Hp} {f : Str} {y : V} {d : D} (ry : Rp K as F y d) : ∀ {vfs : List (Str × V)} {dfs : List (Str × D)}, FsAt K as F vfs dfs → FsAt K as F (putF f y vfs) (putD f d dfs)
  | _, _, .nil => .cons ⟨rfl, ry⟩ .nil
  | (x, v) :: vs, (z, d') :: ds, .cons ⟨e1, r⟩ t => by
    have e1 : x = z := e1
    subst e1
    unfold putF putD
    by_cases c : x = f
    · rw [if_pos c, if_pos c]
      exact .cons ⟨rfl, ry⟩ t
    · rw [if_neg c, if_neg c]
      exact .cons ⟨rfl, r⟩ (FsAt.put ry t)
theorem FsAt.len {K : Frag} {as : List Addr} {F : Hp} : ∀ {vfs : List (Str × V)} {dfs : List (Str × D)}, FsAt K as F vfs dfs → vfs.length = dfs.length
  | _, _, .nil => rfl
  | _, _, .cons _ t => congrArg (· + 1) (FsAt.len t)
/-- o.f = e -/
def sFldSet (f : Str) (fa fe : DE) : DS := fun sd μ => (fe sd μ).bind fun v μ1 => (fa sd μ1).bind fun d μ2 => match d with
  | .dict [(.none, .int k)] => match μ2[k.toNat]? with
    | some (.ins fs) => if fs.length < 1000 then .ok (.next sd) (μ2.set k.toNat (.ins (putD f v fs))) else .bad
    | _ => .bad
  | _ => .bad
theorem s_fldSet {x : Str} {f : Str} {ns : List Str} {p2 : Pos} (hH : HallD X.K X.mg g x ns) (hf : f ∈ ns) (ha : PED X g W o ta fa) (he : PED X g W e te fe) (hs : swapsWith e (some (.Attribute o f p2)) pos.line X.env = pure false := by rfl) :
    PSD X g W (.Assign [.Attribute o f p2] e pos) (sFld X.K ta te f) (sFldSet f fa fe) := ⟨ps_fld ha.pe he.pe hs, fun w0 sd μ w σ l SS S E q => by
  refine Out.wants (he.ev w0.H sd μ w σ SS S) l q fun v μ1 w1 y l1 S1 ry q1 => ?_
  refine Out.wants (ha.ev w0.H sd μ1 w1 σ (SS.le l1) S1) (l.trans l1) q1 fun d μ2 w2 x l2 S2 r q2 => ?_
  split at q2
  · rename_i k
    split at q2
    · rename_i dfs e0
      obtain ⟨p, rfl, ep⟩ := Rp.tokI r
      obtain ⟨p', ep', hF, ⟨dx, vfs, hH', rf⟩, kk⟩ := cell_write S2 e0
      rw [ep] at ep'
      cases ep'
      by_cases hz : dfs.length < 1000
      · rw [if_pos hz] at q2
        have ca : CellAt X.K g (w2.lay p (.ins g.C dx (putF f y vfs))) p (.ins (putD f v dfs)) := ⟨dx, putF f y vfs, upd_same, FsAt.put (ry.le l2) rf⟩
        obtain ⟨k1, k2⟩ := kk (.ins g.C dx (putF f y vfs)) (.ins (putD f v dfs)) ca
        exact ⟨p, g.C, dx, vfs, rfl, hH', hH.cls, hH.no f hf, by rw [FsAt.len rf]; exact hz, q2 _ σ (((l.trans l1).trans l2).trans k1) k1.wk (((SS.le l1).le l2).le k1) k2⟩
      · rw [if_neg hz] at q2
        exact q2.elim
    · exact q2.elim
  · exact q2.elim⟩
/-! ### asked -/
def isIns (d : D) (μ : Mu) (m : Str) : Bool := match d with
  | .dict [(.none, .int k)] => match μ[k.toNat]? with
    | some (.ins fs) => (fs.lookup m).isNone
    | _ => false
  | _ => false
def dMeth (F : DF) (m : Str) (fa : DE) (fs : DA) : DE := fun sd μ => (fa sd μ).bind fun d μ1 => if isIns d μ1 m = true then (fs sd μ1).bind fun ds μ2 => F (d :: ds) μ2 else .bad
theorem FsAt.look0 {K : Frag} {as : List Addr} {F : Hp} {f : Str} : ∀ {vfs : List (Str × V)} {dfs : List (Str × D)}, FsAt K as F vfs dfs → dfs.lookup f = none → vfs.lookup f = none
  | _, _, .nil, h => rfl
  | (x, v) :: vs, (y, d') :: ds, .cons ⟨e1, r⟩ t, h => by
    have e1 : x = y := e1
    subst e1
    rw [List.lookup_cons] at h ⊢
    cases c : f == x with
    | true => rw [c] at h; cases h
    | false =>
      rw [c] at h
      exact FsAt.look0 t h
def tMethS (C : Addr) (m : Str) (sp : Sp) (E : L2.St → XK) (ta : TE) (t : TA) : TE := fun σ H Q => ta σ H fun x H1 => ∃ a dx fs, x = .ref a ∧ H1 a = some (.ins C dx fs) ∧ fs.lookup m = none ∧ t σ H1 fun vs H2 => sp (x :: vs) H2 Q (E σ)
theorem pe_methS {CX : CXT} {k : Nat} {f C : Addr} {fd : FuncData} {ps : List Str} {sp : Sp} {E : L2.St → XK} {m : Str} {pl : Sem Bool} (he : PE X o ta) (c : Cls X.K C) (hm : Meth X.K C m f) (F : FnOk X.prog X.w X.K X.mg X.base CX k f fd ps sp) (hr : Room k X.A) (hb : Binds X.K fd ps []) (hx : ∀ σ, PassesAt CX X σ (E σ)) (ha : PA X (e :: es) t)
    (hst : starEach (e :: es) X.env = (false, eval e X.env) :: starEach es X.env := by rfl) (hpl : (backTo pos (starEach es X.env)).any (·.1) = false := by rfl)
    (ht : eval (.Call (.Attribute o m apos) (e :: es) [] pos) X.env = (do
      let ov ← eval o X.env
      standAt apos.atName
      let (f, first) ← holding [ov] (getMethod ov m pl)
      callWith pos f first (backTo pos (starEach (e :: es) X.env)) (backToKw pos (keywordEach [] X.env))) := by rfl) :
    PE X (.Call (.Attribute o m apos) (e :: es) [] pos) (tMethS C m sp E ta t) := by
  refine ⟨fun pins s σ H Q I h => ?_⟩
  refine PySem.W.methodCall_KW (pl := pl) (thn (he.run pins s σ H _ I h) fun u s1 ⟨x, H1, I1, rx, a, dx, fs, ex, ea, l, q⟩ => ?_) ht
  subst ex
  obtain rfl : u = Value.ref a := rx
  refine getmeth_ok I1 ea c hm l ?_
  exact PySem.W.callWith_K (first := [.ref a]) (h₀ := X.base) I1.ok.mod.kin hm.kp (thn (ha.run pos pins s1 σ H1 _ I1 q) fun us s2 ⟨vs, H2, I2, r, q2⟩ => ⟨I2.kIn, run_fnS (us := .ref a :: us) (vs := .ref a :: vs) F hr hb (hx σ) I2 (.cons rfl r) q2⟩) hst hpl
theorem pe_methS0 {CX : CXT} {k : Nat} {f C : Addr} {fd : FuncData} {ps : List Str} {sp : Sp} {E : L2.St → XK} {m : Str} {pl : Sem Bool} (he : PE X o ta) (c : Cls X.K C) (hm : Meth X.K C m f) (F : FnOk X.prog X.w X.K X.mg X.base CX k f fd ps sp) (hr : Room k X.A) (hb : Binds X.K fd ps []) (hx : ∀ σ, PassesAt CX X σ (E σ))
    (ht : eval (.Call (.Attribute o m apos) [] [] pos) X.env = (do
      let ov ← eval o X.env
      standAt apos.atName
      let (f, first) ← holding [ov] (getMethod ov m pl)
      callWith pos f first (backTo pos (starEach [] X.env)) (backToKw pos (keywordEach [] X.env))) := by rfl) :
    PE X (.Call (.Attribute o m apos) [] [] pos) (tMethS C m sp E ta tNil) := by
  refine ⟨fun pins s σ H Q I h => ?_⟩
  refine PySem.W.methodCall_KW (pl := pl) (thn (he.run pins s σ H _ I h) fun u s1 ⟨x, H1, I1, rx, a, dx, fs, ex, ea, l, q⟩ => ?_) ht
  subst ex
  obtain rfl : u = Value.ref a := rx
  refine getmeth_ok I1 ea c hm l ?_
  exact PySem.W.callWith_K0 (first := [.ref a]) I1.kIn hm.kp (run_fnS (us := [.ref a]) (vs := [.ref a]) F hr hb (hx σ) I1 (.cons rfl .nil) q)
theorem ev_meth {K : Frag} {m : Str} {n : Nat} {F : DF} (ha : EvD K g W ta fa) (hs : EvA K g W t fs) (hn : LenA n fs) : EvD K g W (tMethS g.C m (spD K g (n + 1) F) (WE W) ta t) (dMeth F m fa fs) := fun H0 sd μ w σ SS S => by
  have z := ha H0 sd μ w σ SS S
  unfold dMeth
  cases e1 : fa sd μ with
  | exc c μ1 =>
    rw [e1] at z
    exact fun Q q => z _ q
  | bad => trivial
  | ok d μ1 =>
    rw [e1] at z
    simp only [Res.bind_ok]
    by_cases hi : isIns d μ1 m = true
    · rw [if_pos hi]
      have hi' := hi
      unfold isIns at hi
      split at hi
      · rename_i k
        split at hi
        · rename_i dfs e0
          have hl : dfs.lookup m = none := by
            cases q : dfs.lookup m with
            | none => rfl
            | some v => rw [q] at hi; cases hi
          -- where the instance lies
          have fin : ∀ (Q : VK), (∀ w1 x, Le w w1 → Sim K g w1 μ1 → Rp K w1.as w1.F x (.dict [(.none, .int k)]) → t σ w1.H fun vs H2 => spD K g (n + 1) F (x :: vs) H2 Q (WE W σ)) → tMethS g.C m (spD K g (n + 1) F) (WE W) ta t σ w.H Q := fun Q h => z _ fun w1 x l1 S1 rx => by
            obtain ⟨p, ex, ep⟩ := Rp.tokI rx
            obtain ⟨p', ep', hF, dx, vfs, hH', rf⟩ := S1.cell _ _ e0
            rw [ep] at ep'
            cases ep'
            exact ⟨p, dx, vfs, ex, hH', FsAt.look0 rf hl, h w1 x l1 S1 rx⟩
          have y (w1 : Wd) (l1 : Le w w1) (S1 : Sim K g w1 μ1) := hs H0 sd μ1 w1 σ (SS.le l1) S1
          cases e2 : fs sd μ1 with
          | bad => trivial
          | exc c μ2 =>
            rw [e2] at y
            exact fun Q q => fin Q fun w1 x l1 S1 rx => y w1 l1 S1 _ fun w' l' S' => q w' (l1.trans l') S'
          | ok ds μ2 =>
            rw [e2] at y
            have hlen := hn sd μ1 ds μ2 e2
            simp only [Res.bind_ok]
            cases e3 : F (.dict [(.none, .int k)] :: ds) μ2 with
            | bad => trivial
            | ok d2 μ3 => exact fun Q q => fin Q fun w1 x l1 S1 rx => y w1 l1 S1 _ fun w2 vs l2 S2 ra => ⟨_ :: ds, μ2, w2, rfl, by rw [List.length_cons, RpA.length ra, hlen], S2, .cons (rx.le l2) ra, by rw [e3]; exact fun w' v l' S' r => q w' v ((l1.trans l2).trans l') S' r⟩
            | exc c μ3 => exact fun Q q => fin Q fun w1 x l1 S1 rx => y w1 l1 S1 _ fun w2 vs l2 S2 ra => ⟨_ :: ds, μ2, w2, rfl, by rw [List.length_cons, RpA.length ra, hlen], S2, .cons (rx.le l2) ra, by rw [e3]; exact fun w' l' S' => q w' ((l1.trans l2).trans l') S'⟩
        · cases hi
      · cases hi
    · rw [if_neg hi]
      trivial
theorem d_meth {k n : Nat} {F : DF} {x m : Str} {ns : List Str} {pl : Sem Bool} (hH : HallD X.K X.mg g x ns) (hF : FnM X.prog X.w X.K X.mg X.base g m k (n + 1) F) (hr : Room k X.A) (tk : Takes X W) (ho : PED X g W o ta fa) (ha : PAD X g W (e :: es) t fs) (hn : LenA n fs := by first | exact .cons .nil | exact .cons (.cons .nil))
    (hst : starEach (e :: es) X.env = (false, eval e X.env) :: starEach es X.env := by rfl) (hpl : (backTo pos (starEach es X.env)).any (·.1) = false := by rfl)
    (ht : eval (.Call (.Attribute o m apos) (e :: es) [] pos) X.env = (do
      let ov ← eval o X.env
      standAt apos.atName
      let (f, first) ← holding [ov] (getMethod ov m pl)
      callWith pos f first (backTo pos (starEach (e :: es) X.env)) (backToKw pos (keywordEach [] X.env))) := by rfl) :
    PED X g W (.Call (.Attribute o m apos) (e :: es) [] pos) (tMethS g.C m (spD X.K g (n + 1) F) (WE W) ta t) (dMeth F m fa fs) := by
  obtain ⟨f, fd, ps, hl, G, hm, hb⟩ := hF.ex
  exact ⟨pe_methS ho.pe hH.cls hm G hr hb (fun σ => passAt tk σ) ha.pa hst hpl ht, ev_meth ho.ev ha.ev hn⟩
theorem d_meth0 {k : Nat} {F : DF} {x m : Str} {ns : List Str} {pl : Sem Bool} (hH : HallD X.K X.mg g x ns) (hF : FnM X.prog X.w X.K X.mg X.base g m k 1 F) (hr : Room k X.A) (tk : Takes X W) (ho : PED X g W o ta fa)
    (ht : eval (.Call (.Attribute o m apos) [] [] pos) X.env = (do
      let ov ← eval o X.env
      standAt apos.atName
      let (f, first) ← holding [ov] (getMethod ov m pl)
      callWith pos f first (backTo pos (starEach [] X.env)) (backToKw pos (keywordEach [] X.env))) := by rfl) :
    PED X g W (.Call (.Attribute o m apos) [] [] pos) (tMethS g.C m (spD X.K g 1 F) (WE W) ta tNil) (dMeth F m fa aNil) := by
  obtain ⟨f, fd, ps, hl, G, hm, hb⟩ := hF.ex
  exact ⟨pe_methS0 ho.pe hH.cls hm G hr hb (fun σ => passAt tk σ) ht, ev_meth ho.ev a_nil.ev LenA.nil⟩
end
theorem fnM_made {P : Program} {w : World} {K : Frag} {mg : Str → Option Value} {base : Heap} {g : G} {x m qual : Str} {params : Arguments} {body : List Stmt} {scope : Scope} {f : Addr} {fd : FuncData} (N ps : List Str) (k n : Nat) (fb : DS) {Fd : DF}
    (F : FunD K x qual params body scope [] [] f fd) (hm : Meth K g.C m f) (S : FnScope N ps scope) (hn : ps.length = n) (hF : Fd = fnD N.length fb) (hb : Binds K fd ps [])
    (hbody : ∀ (cdv : Value) (A : Around) (outer : List Env) (s : Shared) (H : Hp) (E : XK), Room k (A.deeper (envOfC qual scope s.heap.objs.size f cdv)) →
      ∃ t, PBD (cxOf (L2.CX P w) P w K mg base N qual scope f cdv A outer s H E) g (fun cls d _ H => E cls d H) body t fb) : FnM P w K mg base g m (k + 1) n Fd := by
  subst hF
  subst hn
  exact ⟨f, fd, ps, rfl, fn_ok F S hbody, hm, hb⟩
theorem fnI_made {P : Program} {w : World} {K : Frag} {mg : Str → Option Value} {base : Heap} {g : G} {x y qual : Str} {params : Arguments} {body : List Stmt} {scope : Scope} {f : Addr} {fd : FuncData} (N ps : List Str) (k n : Nat) (fb : DS) {Fd : DF}
    (F : FunD K x qual params body scope [] [] f fd) (hg : mg y = some (.ref g.C)) (hm : Mk K g.C f) (S : FnScope N ps scope) (hn : ps.length = n) (hF : Fd = fnD N.length fb) (hb : Binds K fd ps [])
    (hbody : ∀ (cdv : Value) (A : Around) (outer : List Env) (s : Shared) (H : Hp) (E : XK), Room k (A.deeper (envOfC qual scope s.heap.objs.size f cdv)) →
      ∃ t, PBD (cxOf (L2.CX P w) P w K mg base N qual scope f cdv A outer s H E) g (fun cls d _ H => E cls d H) body t fb) : FnI P w K mg base g y (k + 1) n Fd := by
  subst hF
  subst hn
  exact ⟨hg, f, fd, ps, rfl, fn_ok F S hbody, hm, hb⟩
end DL

set_option maxHeartbeats 4000000
/-! DLOwn: len(x), x == y and isinstance(x, C) of instances of a class of the module. -/
namespace DL
open PySem PySem.Spec PyProof.Rows L2 PySem.F C8
theorem len_own {prog : Program} {w : World} {A : Around} {E : Value → Shared → Prop} {s : Shared} {K : PySem.W.Frag} {x C f : Addr} {ox : Obj} {odd : Option Obj} {Q : Value → Shared → Prop} (X : K.In s.heap) (I : PySem.W.InstAt s.heap x ox C odd) (hs : PySem.W.findIn K (.ref C) "__len__" = some (some (.ref f))) (hf : PySem.W.isFn K (.ref f) = true)
    (h : wpAny (model prog w) A.in1 (call (.ref f) [.ref x]) (fun r s₁ => ∃ n u, r = Value.int n u ∧ 0 ≤ n ∧ n < 2 ^ 63 ∧ ∀ t tk, Q (.int n t) { s₁ with toks := tk }) E s) : wpAny (model prog w) A (call (.builtin "len") [.ref x]) Q E s := by
  refine Calls.call_function_entry kind_len plain_len entry_len (args_len1 _) ?_
  unfold Builtin.«len»
  refine wpAny_bind (m := oneArg "len" _) (wpAny_pure ?_)
  refine wpAny_bind (m := callSpecial? (.ref x) (PySem.Str.ofString "__len__")) (PySem.W.special_fn X I hs (beq_iff_eq.mp hf) (wpAny_mono h (fun r s' hr => ?_) fun _ _ y => y))
  obtain ⟨n, u, rfl, h0, h1, hq⟩ := hr
  refine wpAny_bind (wpAny_holding (wpAny_pure ?_))
  refine wpAny_bind (wpAny_letGo ?_)
  show wpAny _ _ (if n < 0 then _ else _) _ _ _
  rw [if_neg (by omega)]
  show wpAny _ _ (if n ≥ 2 ^ 63 then _ else _) _ _ _
  rw [if_neg (by omega)]
  exact wpAny_bind (wpAny_mkInt (wpAny_pure ⟨_, rfl, hq _ _⟩))
abbrev noE : XK := fun _ _ _ => False
section
variable {X : Cx} {g : G} {W : WX} {a b c e o : Expr} {ta tb tc te : TE} {fa fb fc fe : DE} {pos : Pos}
theorem run_in {A : Around} {k : Nat} {f : Addr} {fd : FuncData} {ps : List Str} {sp : Sp} {pins : List (Addr × Obj)} {σ : L2.St} {H : Hp} {s : Shared} {Q : VK} {us : List Value} {vs : List V} (F : FnOk X.prog X.w X.K X.mg X.base (L2.CX X.prog X.w) k f fd ps sp) (hr : Room k A) (e0 : Env0 X.prog X.w X.K X.mg X.base A X.stack s H) (hb : Binds X.K fd ps [])
    (I : Inv X pins σ H s) (r : Vals vs us) (h : sp vs H Q noE) : wpAny (model X.prog X.w) A (call (.ref f) us) (EP X pins σ Q) X.xe s := by
  have hl : us.length = ps.length := by rw [← r.length]; exact F.len _ _ _ _ h
  have bb := hb s us I.kIn (by rw [List.append_nil]; exact hl)
  rw [List.append_nil] at bb
  refine wpAny_call (codeAny_mono (F.run A X.stack s H ⟨us, []⟩ us vs Q noE hr e0 bb r h) fun r s' hq => ?_)
  cases r with
  | error e =>
    obtain ⟨_, _, _, _, _, _, _, _, _, _, _, _, z⟩ := hq
    exact z.elim
  | ok fl =>
    cases fl with
    | ret u => exact I.after hq
    | next => exact False.elim hq
    | brk => exact False.elim hq
    | cont => exact False.elim hq
/-! ### len -/
def rLenI (C : Addr) (sp : Sp) : List V → Hp → VK → Prop := fun xs H Q => ∃ a dx fs, xs = [.ref a] ∧ H a = some (.ins C dx fs) ∧ sp [.ref a] H (fun z H' => ∃ i, z = .int i ∧ 0 ≤ i ∧ i < 2 ^ 63 ∧ Q z H') noE
theorem call_lenI {k : Nat} {C f : Addr} {fd : FuncData} {ps : List Str} {sp : Sp} (hm : Meth X.K C "__len__" f) (F : FnOk X.prog X.w X.K X.mg X.base (L2.CX X.prog X.w) k f fd ps sp) (hr : Room (k + 1) X.A) (hb : Binds X.K fd ps []) : CallR X (.builtin "len") (rLenI C sp) := by
  intro pins s σ H xs us Q I r h
  obtain ⟨a, dx, fs, rfl, ha, q⟩ := h
  obtain ⟨u, rfl, ru⟩ := r.one
  cases (show u = Value.ref a from ru)
  obtain ⟨mA, J, _⟩ := ins_get I.hok ha
  obtain ⟨od, J, _⟩ := J.look
  refine len_own I.kIn J hm.at_ hm.fn (wpAny_mono (run_in (us := [.ref a]) (vs := [.ref a]) F hr.in1 I.env0.in1 hb I (.cons rfl .nil) q) (fun v s' z => ?_) fun _ _ x => x)
  obtain ⟨z', H', I', rz, i, ei, h0, h1, qz⟩ := z
  subst ei
  obtain ⟨t, e⟩ := (show ∃ t, v = Value.int i t from rz)
  cases e
  exact ⟨i, t, rfl, h0, h1, fun t' tk => ⟨.int i, H', I'.tok _, ⟨t', rfl⟩, qz⟩⟩
def dLenI (F : DF) (fa : DE) : DE := fun sd μ => (fa sd μ).bind fun d μ1 => if isIns d μ1 "__len__" = true then match F [d] μ1 with
  | .ok (.int i) μ2 => if 0 ≤ i ∧ i < 1000000 then .ok (.int i) μ2 else .bad
  | _ => .bad
  else .bad
theorem ins_at {K : Frag} {w : Wd} {μ : Mu} {d : D} {m : Str} {x : V} (hi : isIns d μ m = true) (S : Sim K g w μ) (r : Rp K w.as w.F x d) : ∃ p dx vfs, x = .ref p ∧ w.H p = some (.ins g.C dx vfs) := by
  unfold isIns at hi
  split at hi
  · rename_i k
    split at hi
    · rename_i dfs e0
      obtain ⟨p, ex, ep⟩ := Rp.tokI r
      obtain ⟨p', ep', hF, dx, vfs, hH', rf⟩ := S.cell _ _ e0
      rw [ep] at ep'
      cases ep'
      exact ⟨p, dx, vfs, ex, hH'⟩
    · cases hi
  · cases hi
theorem d_lenI {k : Nat} {F : DF} {p : Pos} (hF : FnM X.prog X.w X.K X.mg X.base g "__len__" k 1 F) (hr : Room (k + 1) X.A) (ho : PED X g W o ta fa) (hm : X.mg "len" = none) (hg : Gl X "len" := by rfl) (hv : bootBuiltins "len" = some (.builtin "len") := by decide +kernel)
    (he : starEach [o] X.env = (false, eval o X.env) :: starEach [] X.env := by rfl) (hpl : (backTo pos (starEach [] X.env)).any (·.1) = false := by rfl) :
    PED X g W (.Call (.Name "len" p) [o] [] pos) (tCB (rLenI g.C (spD X.K g 1 F)) (tCons ta tNil)) (dLenI F fa) := by
  obtain ⟨f, fd, ps, hl, G, hmm, hb⟩ := hF.ex
  refine ⟨pe_callB (call_lenI hmm G hr hb) hg hm hv (pa_cons ho.pe pa_nil he) (he := he) (hpl := hpl), fun H0 sd μ w σ SS S => ?_⟩
  refine Out.bind (T1 := fun x H1 Q => rLenI g.C (spD X.K g 1 F) [x] H1 Q) (ho.ev H0 sd μ w σ SS S) fun d μ1 w1 x l1 S1 r => ?_
  by_cases hi : isIns d μ1 "__len__" = true
  · rw [if_pos hi]
    obtain ⟨q, dx, vfs, ex, hH⟩ := ins_at hi S1 r
    cases e3 : F [d] μ1 with
    | bad => trivial
    | exc c μ2 => trivial
    | ok d2 μ2 =>
      cases d2 with
      | int i =>
        show Out _ _ _ _ _ _ (if 0 ≤ i ∧ i < 1000000 then _ else _) _
        by_cases hz : 0 ≤ i ∧ i < 1000000
        · rw [if_pos hz]
          refine fun Q qq => ⟨q, dx, vfs, by rw [ex], hH, [d], μ1, w1, rfl, rfl, S1, .cons (ex ▸ r) .nil, ?_⟩
          rw [e3]
          exact fun w' v l' S' rv => ⟨i, rv.intV, hz.1, by omega, qq w' v l' S' rv⟩
        · rw [if_neg hz]
          trivial
      | _ => trivial
  · rw [if_neg hi]
    trivial
/-! ### == -/
def rEqI (K : Frag) (C : Addr) (sp : Sp) : R2 := fun x y H Q => ∃ a dx fs t, x = .ref a ∧ H a = some (.ins C dx fs) ∧ TyX K H y t ∧ PySem.W.notFirst K C t = true ∧ sp [x, y] H Q noE
theorem ty_looks {pins : List (Addr × Obj)} {σ : L2.St} {H : Hp} {s : Shared} {x : V} {u t : Value} (I : Inv X pins σ H s) (rx : RelV x u) (ty : TyX X.K H x t) : PySem.W.Looks (model X.prog X.w) s.heap (typeOf u) t := by
  obtain ⟨P, Z, p, hx⟩ := kit_of I rx ty
  exact Z.ty _ _ I.kIn p
theorem op_eqI {k : Nat} {C f : Addr} {fd : FuncData} {ps : List Str} {sp : Sp} (hm : Meth X.K C "__eq__" f) (F : FnOk X.prog X.w X.K X.mg X.base (L2.CX X.prog X.w) k f fd ps sp) (hr : Room k X.A) (hb : Binds X.K fd ps []) : OpR X (compareOp .Eq) (rEqI X.K C sp) := by
  intro pins s σ H x y v u Q I rx ry h
  obtain ⟨a, dx, fs, t, rfl, ha, ty, hn, q⟩ := h
  cases (show v = Value.ref a from rx)
  obtain ⟨mA, J, _⟩ := ins_get I.hok ha
  obtain ⟨od, J, _⟩ := J.look
  obtain ⟨m, hF⟩ := I.fr
  show wpAny (model X.prog X.w) X.A (richCompare .Eq (.ref a) u) (EP X pins σ Q) X.xe s
  refine PySem.W.cmp_K (op := .Eq) (tb := t) hr.units0 hF I.ok.mod.kin J (ty_looks I ry ty) hn hm.at_ hm.fn ?_
  refine wpAny_mono (run_in (us := [.ref a, u]) (vs := [.ref a, y]) F hr I.env0 hb I (.cons rfl (.cons ry .nil)) q) (fun w s' z => ?_) fun _ _ x => x
  obtain ⟨z', H', I', rz, qz⟩ := z
  exact SlX.cmpback rz ⟨z', H', I', rz, qz⟩
/-- what isinstance and == ask of the class -/
structure IsC (K : Frag) (C : Addr) : Prop where
  ins : InsC K C
  no : ∀ n ∈ (["NoneType", "bool", "int", "str", "list", "tuple"] : List String), PySem.W.kitOne K (.type n) (.ref C) = some false ∧ PySem.W.notFirst K C (.type n) = true
def isInsD (d : D) (μ : Mu) : Bool := match d with
  | .dict [(.none, .int k)] => match μ[k.toNat]? with
    | some (.ins _) => true
    | _ => false
  | _ => false
theorem insD_at {K : Frag} {w : Wd} {μ : Mu} {d : D} {x : V} (hi : isInsD d μ = true) (S : Sim K g w μ) (r : Rp K w.as w.F x d) : ∃ p dx vfs, x = .ref p ∧ w.H p = some (.ins g.C dx vfs) := by
  unfold isInsD at hi
  split at hi
  · rename_i k
    split at hi
    · rename_i dfs e0
      obtain ⟨p, ex, ep⟩ := Rp.tokI r
      obtain ⟨p', ep', hF, dx, vfs, hH', rf⟩ := S.cell _ _ e0
      rw [ep] at ep'
      cases ep'
      exact ⟨p, dx, vfs, ex, hH'⟩
    · cases hi
  · cases hi
theorem tyD_in {d : D} {t : String} (h : tyD d = some t) : t ∈ (["NoneType", "bool", "int", "str", "list", "tuple"] : List String) := by
  cases d <;> cases h <;> simp
theorem ins_ty {K : Frag} {w : Wd} {p dx : Addr} {vfs : List (Str × V)} (c : InsC K g.C) (h : w.H p = some (.ins g.C dx vfs)) : TyX K w.H (.ref p) (.ref g.C) := .base (.ins h c.cl c.ha c.hn c.htk c.hm)
/-- its type, if it is told -/
def known (d : D) (μ : Mu) : Bool := isInsD d μ || (tyD d).isSome
theorem ty_known {K : Frag} {w : Wd} {μ : Mu} {d : D} {x : V} (c : IsC K g.C) (hk : known d μ = true) (S : Sim K g w μ) (r : Rp K w.as w.F x d) : ∃ t, TyX K w.H x t ∧ PySem.W.kitOne K t (.ref g.C) = some (isInsD d μ) ∧ PySem.W.notFirst K g.C t = true := by
  cases hi : isInsD d μ with
  | true =>
    obtain ⟨p, dx, vfs, rfl, h⟩ := insD_at hi S r
    exact ⟨_, ins_ty c.ins h, c.ins.me, by simp [PySem.W.notFirst]⟩
  | false =>
    unfold known at hk
    rw [hi, Bool.false_or] at hk
    obtain ⟨t, ht⟩ := Option.isSome_iff_exists.mp hk
    obtain ⟨n1, n2⟩ := c.no t (tyD_in ht)
    exact ⟨_, r.tyX S.sub ht, n1, n2⟩
def dIsC (fa : DE) : DE := fun sd μ => (fa sd μ).bind fun d μ1 => if known d μ1 = true then .ok (.bool (isInsD d μ1)) μ1 else .bad
theorem d_isC {x : Str} {ns : List Str} {p1 p2 : Pos} (hH : HallD X.K X.mg g x ns) (hc : IsC X.K g.C) (ha : PED X g W a ta fa) (hm : X.mg "isinstance" = none) (hg : Gl X "isinstance" := by rfl) (hg2 : Gl X x := by rfl) (hd : (x == ("__debug__" : Str)) = false := by decide)
    (hv1 : bootBuiltins "isinstance" = some (.builtin "isinstance") := by decide +kernel) (he : starEach [a, .Name x p2] X.env = (false, eval a X.env) :: starEach [.Name x p2] X.env := by rfl) (hpl : (backTo pos (starEach [.Name x p2] X.env)).any (·.1) = false := by rfl)
    (hs2 : starEach [.Name x p2] X.env = (false, eval (.Name x p2) X.env) :: starEach [] X.env := by rfl) :
    PED X g W (.Call (.Name "isinstance" p1) [a, .Name x p2] [] pos) (tCB (rIsi X.K) (tCons ta (tCons (tC (.ref g.C)) tNil))) (dIsC fa) :=
  ⟨pe_callB call_isi hg hm hv1 (pa_cons ha.pe (pa_cons (pe_glob hg2 hH.mg_ (v := .ref g.C) rfl hd) pa_nil hs2) he) (he := he) (hpl := hpl), fun H0 sd μ w σ SS S => by
  refine Out.bind (T1 := fun x H1 Q => rIsi X.K [x, .ref g.C] H1 Q) (ha.ev H0 sd μ w σ SS S) fun d μ1 w1 v l1 S1 r => ?_
  by_cases hk : known d μ1 = true
  · rw [if_pos hk]
    obtain ⟨t, ty, e, _⟩ := ty_known hc hk S1 r
    exact Out.ok S1 (.bl _) fun Q q => ⟨v, .ref g.C, t, .ref g.C, _, rfl, .own g.C, ty, e, q⟩
  · rw [if_neg hk]
    trivial⟩
def dEqI (F : DF) (fa fb : DE) : DE := fun sd μ => (fa sd μ).bind fun x μ1 => (fb sd μ1).bind fun y μ2 => if (isInsD x μ2 && known y μ2) = true then match F [x, y] μ2 with
  | .ok v μ3 => .ok v μ3
  | _ => .bad
  else .bad
theorem ev_eqI {K : Frag} {F : DF} (hc : IsC K g.C) (ha : EvD K g W ta fa) (hb : EvD K g W tb fb) : EvD K g W (tOp (rEqI K g.C (spD K g 2 F)) ta tb) (dEqI F fa fb) := fun H0 sd μ w σ SS S => by
  refine Out.bind (T1 := fun x H Q => tb σ H fun y H2 => rEqI K g.C (spD K g 2 F) x y H2 Q) (ha H0 sd μ w σ SS S) fun x μ1 w1 xv l1 S1 rx => ?_
  refine Out.bind (T1 := fun y H2 Q => rEqI K g.C (spD K g 2 F) xv y H2 Q) (hb H0 sd μ1 w1 σ (SS.le l1) S1) fun y μ2 w2 yv l2 S2 ry => ?_
  by_cases hk : (isInsD x μ2 && known y μ2) = true
  · rw [if_pos hk]
    obtain ⟨k1, k2⟩ := Bool.and_eq_true_iff.mp hk
    obtain ⟨p, dx, vfs, ex, hH⟩ := insD_at k1 S2 (rx.le l2)
    obtain ⟨t, ty, _, hn⟩ := ty_known hc k2 S2 ry
    cases e3 : F [x, y] μ2 with
    | bad => trivial
    | exc c μ3 => trivial
    | ok v μ3 => exact fun Q q => ⟨p, dx, vfs, t, ex, hH, ty, hn, [x, y], μ2, w2, rfl, rfl, S2, .cons (rx.le l2) (.cons ry .nil), by rw [e3]; exact fun w' v l' S' rv => q w' v l' S' rv⟩
  · rw [if_neg hk]
    trivial
theorem d_eqI {k : Nat} {F : DF} (hc : IsC X.K g.C) (hF : FnM X.prog X.w X.K X.mg X.base g "__eq__" k 2 F) (hr : Room k X.A) (ha : PED X g W a ta fa) (hb : PED X g W b tb fb) : PED X g W (.Compare a [.Eq] [b] pos) (tOp (rEqI X.K g.C (spD X.K g 2 F)) ta tb) (dEqI F fa fb) := by
  obtain ⟨f, fd, ps, hl, G, hm, hbd⟩ := hF.ex
  exact ⟨pe_cmpR (op_eqI hm G hr hbd) ha.pe hb.pe (nomark _), ev_eqI hc ha.ev hb.ev⟩
theorem t_eqI {k : Nat} {F : DF} (hc : IsC X.K g.C) (hF : FnM X.prog X.w X.K X.mg X.base g "__eq__" k 2 F) (hr : Room k X.A) (ha : PED X g W a ta fa) (hb : PED X g W b tb fb) : PTD X g W (.Compare a [.Eq] [b] pos) (tTest (tOp (rEqI X.K g.C (spD X.K g 2 F)) ta tb)) (dTest (dEqI F fa fb)) := by
  obtain ⟨f, fd, ps, hl, G, hm, hbd⟩ := hF.ex
  exact ⟨pt_cmpR (op_eqI hm G hr hbd) ha.pe hb.pe (nomark _), ev_test (ev_eqI hc ha.ev hb.ev)⟩
end
/-- the same, of the head's facts -/
def isCB (K : Frag) (C : Addr) : Bool := He.eqO (PySem.W.findIn K (.ref C) "__class__") (some (some (.builtin "object.__class__"))) && He.eqO (PySem.W.specialIn K (.builtin "object.__class__") "__get__") (some (some (.builtin "getset_descriptor.__get__"))) && decide (PySem.W.takesIn K (.builtin "object.__class__") = some true) && decide (PySem.W.mroIn K C (.type "object") = some true) && decide (PySem.W.kitOne K (.ref C) (.ref C) = some true) &&
  (["NoneType", "bool", "int", "str", "list", "tuple"] : List String).all fun n => decide (PySem.W.kitOne K (.type n) (.ref C) = some false) && PySem.W.notFirst K C (.type n)
theorem isC_of {K : Frag} {C : Addr} (c : Cls K C) (h : isCB K C = true) : IsC K C := by
  unfold isCB at h
  simp only [Bool.and_eq_true, decide_eq_true_eq, List.all_eq_true] at h
  obtain ⟨⟨⟨⟨⟨h1, h2⟩, h3⟩, h4⟩, h5⟩, h6⟩ := h
  exact ⟨⟨c, He.eqO_ok h1, He.eqO_ok h2, h3, h4, h5⟩, h6⟩
/-! ### range(a, b, -1) -/
def rgDn (hi lo : Int) : List D := (List.range (hi - lo).toNat).map fun i => .int (hi + (i : Nat) * (-1))
theorem walkC {K : Frag} {g : G} {w : Wd} {hi lo : Int} : WalkD K g (Itc hi (-1) (hi - lo).toNat) w (rgDn hi lo) where
  go := fun i w' k e h => by
    have h : i < ((List.range (hi - lo).toNat).map fun i => PyData.int (hi + (i : Nat) * (-1))).length := h
    rw [List.length_map, List.length_range] at h
    exact h
  stop := fun w' k e => by
    show (hi - lo).toNat ≤ ((List.range (hi - lo).toNat).map fun i => PyData.int (hi + (i : Nat) * (-1))).length
    rw [List.length_map, List.length_range]
    exact Nat.le_refl _
  yld := fun i w' μ x H' d k S hd y => by
    obtain ⟨rfl, rfl⟩ := y
    have hd : ((List.range (hi - lo).toNat).map fun i => PyData.int (hi + (i : Nat) * (-1)))[i]? = some d := hd
    rw [List.getElem?_map] at hd
    by_cases c : i < (hi - lo).toNat
    · rw [List.getElem?_range c] at hd
      cases hd
      exact ⟨w', rfl, .refl _, S, .int _⟩
    · rw [List.getElem?_eq_none (by rw [List.length_range]; omega)] at hd
      cases hd
def iRg3 (fa fb fc : DE) : DI := fun sd μ => (fa sd μ).bind fun d μ1 => (fb sd μ1).bind fun e μ2 => (fc sd μ2).bind fun k μ3 => match k with
  | .int c => if c = -1 then (lift (rg2Ok d e) μ3).bind fun p μ4 => .ok (rgDn p.1 p.2) μ4 else .bad
  | _ => .bad
theorem i_rg3 {X : Cx} {g : G} {W : WX} {tg a b c : Expr} {ta tb tc : TE} {fa fb fc : DE} {pos p : Pos} (ha : PED X g W a ta fa) (hb : PED X g W b tb fb) (hc : PED X g W c tc fc) (hm : X.mg "range" = none) (hg : Gl X "range" := by rfl)
    (hs : starEach [a, b, c] X.env = (false, eval a X.env) :: starEach [b, c] X.env := by rfl) (hs2 : starEach [b, c] X.env = (false, eval b X.env) :: starEach [c] X.env := by rfl) (hs3 : starEach [c] X.env = (false, eval c X.env) :: starEach [] X.env := by rfl) (hpl : (backTo pos (starEach [b, c] X.env)).any (·.1) = false := by rfl) :
    PID X g W tg (.Call (.Name "range" p) [a, b, c] [] pos) (iRng3 (tCons ta (tCons tb (tCons tc tNil)))) (iRg3 fa fb fc) := ⟨pi_range3 hg hm (pa_cons ha.pe (pa_cons hb.pe (pa_cons hc.pe pa_nil hs3) hs2) hs) hs hpl, fun H0 sd μ w σ SS S => by
  let P : List V → Hp → (It → Hp → Prop) → Prop := fun vs H1 R => ∃ (i j c : Int) (n : Nat), vs = [V.int i, V.int j, V.int c] ∧ RgC i j c n ∧ R (Itc i c n) H1
  refine Out.bind (T1 := fun x H R => tb σ H fun y H2 => tc σ H2 fun z H3 => P [x, y, z] H3 R) (ha.ev H0 sd μ w σ SS S) fun d μ1 w1 x l1 S1 rx => ?_
  refine Out.bind (T1 := fun y H2 R => tc σ H2 fun z H3 => P [x, y, z] H3 R) (hb.ev H0 sd μ1 w1 σ (SS.le l1) S1) fun e μ2 w2 y l2 S2 ry => ?_
  refine Out.bind (T1 := fun z H3 R => P [x, y, z] H3 R) (hc.ev H0 sd μ2 w2 σ ((SS.le l1).le l2) S2) fun k μ3 w3 z l3 S3 rz => ?_
  split
  · rename_i c
    by_cases hc : c = -1
    · subst hc
      rw [if_pos rfl]
      unfold rg2Ok
      split
      · split
        · rename_i hh
          rw [rx.intV, ry.intV, rz.intV]
          exact Out.ok S3 walkC fun R q => ⟨_, _, -1, _, rfl, RgC.neg (by omega) (by omega) (by omega) (by omega), q⟩
        · trivial
      · trivial
    · rw [if_neg hc]
      trivial
  · trivial⟩
end DL

set_option maxHeartbeats 4000000
/-! DLText: str(n), int(text), sep.join(xs), text.split(sep). -/
namespace DL
open PySem PySem.Spec PyProof.Rows L2 SkE
section
variable {X : Cx} {g : G} {W : WX} {a b c e o : Expr} {ta tb tc te : TE} {fa fb fc fe : DE} {pos p apos cpos : Pos}
/-! ### str(x) -/
def pyStr : D → Option D
  | .int i => if i.natAbs.log2 < 1920 then some (.str (toString i)) else none
  | .str x => some (.str x)
  | _ => none
def rStr : List V → Hp → VK → Prop := fun xs H Q => (∃ i : Int, xs = [.int i] ∧ i.natAbs.log2 < 1920 ∧ Q (.str (toString i)) H) ∨ ∃ x, xs = [.str x] ∧ Q (.str x) H
theorem d_str1 (ha : PED X g W a ta fa) (hm : X.mg "str" = none) (hg : Gl X "str" := by rfl) (he : starEach [a] X.env = (false, eval a X.env) :: starEach [] X.env := by rfl) (hpl : (backTo pos (starEach [] X.env)).any (·.1) = false := by rfl) :
    PED X g W (.Call (.Name "str" p) [a] [] pos) (tCB rStr (tCons ta tNil)) (dUn pyStr fa) :=
  ⟨pe_callTy (call_str_int.or call_str_str) hg hm (by decide +kernel) (pa_cons ha.pe pa_nil he) (he := he) (hpl := hpl), fun H0 sd μ w σ SS S => by
  refine Out.bind (T1 := fun x H Q => rStr [x] H Q) (ha.ev H0 sd μ w σ SS S) fun d μ1 w1 v l1 S1 r => Out.lift fun z hz => ?_
  unfold pyStr at hz
  split at hz
  · split at hz
    · rename_i h
      cases hz
      rw [r.intV]
      exact Out.ok S1 (.str _) fun Q q => .inl ⟨_, rfl, h, q⟩
    · cases hz
  · cases hz
    rw [r.strV]
    exact Out.ok S1 (.str _) fun Q q => .inr ⟨_, rfl, q⟩
  · cases hz⟩
/-! ### int(text) -/
def pyIntS : D → Option D
  | .str x => if x.length ≤ 640 then (intText? x).map .int else none
  | _ => none
theorem d_intS (ha : PED X g W a ta fa) (hm : X.mg "int" = none) (hg : Gl X "int" := by rfl) (he : starEach [a] X.env = (false, eval a X.env) :: starEach [] X.env := by rfl) (hpl : (backTo pos (starEach [] X.env)).any (·.1) = false := by rfl) :
    PED X g W (.Call (.Name "int" p) [a] [] pos) (tCB (fun xs H Q => ∃ a n, xs = [.str a] ∧ PySem.intText? a = some n ∧ a.length ≤ 640 ∧ Q (V.int n) H) (tCons ta tNil)) (dUn pyIntS fa) :=
  ⟨pe_callTy call_int_str hg hm (by decide +kernel) (pa_cons ha.pe pa_nil he) (he := he) (hpl := hpl), fun H0 sd μ w σ SS S => by
  refine Out.bind (T1 := fun x H Q => ∃ a n, [x] = [V.str a] ∧ PySem.intText? a = some n ∧ a.length ≤ 640 ∧ Q (V.int n) H) (ha.ev H0 sd μ w σ SS S) fun d μ1 w1 v l1 S1 r => Out.lift fun z hz => ?_
  unfold pyIntS at hz
  split at hz
  · split at hz
    · rename_i x h
      cases e : intText? x with
      | none => rw [e] at hz; cases hz
      | some n =>
        rw [e] at hz
        cases hz
        rw [r.strV]
        exact Out.ok S1 (.int n) fun Q q => ⟨x, n, rfl, e, h, q⟩
    · cases hz
  · cases hz⟩
/-! ### sep.join(xs) -/
def asStrs : List D → Option (List Str)
  | [] => some []
  | .str x :: r => (asStrs r).map (x :: ·)
  | _ => none
theorem asStrs_map : ∀ {ds : List D} {ys : List Str}, asStrs ds = some ys → ds = ys.map .str
  | [], ys, h => by cases h; rfl
  | .str x :: r, ys, h => by
    have h : (asStrs r).map (x :: ·) = some ys := h
    cases e : asStrs r with
    | none => rw [e] at h; cases h
    | some zs =>
      rw [e] at h
      cases h
      rw [asStrs_map e]
      rfl
  | .none :: _, _, h => by cases h
  | .bool _ :: _, _, h => by cases h
  | .int _ :: _, _, h => by cases h
  | .list _ :: _, _, h => by cases h
  | .tuple _ :: _, _, h => by cases h
  | .dict _ :: _, _, h => by cases h
theorem asStrs_of : ∀ ys : List Str, asStrs (ys.map .str) = some ys
  | [] => rfl
  | y :: r => by
    show (asStrs (r.map .str)).map (y :: ·) = _
    rw [asStrs_of r]
    rfl
def pyJoin : D → D → Option D
  | .str a, .list ds => (asStrs ds).bind fun ys => if (ys.map (·.length)).sum + ys.length * a.length ≤ 16777216 then some (.str (Txt.join a ys)) else none
  | _, _ => none
def isStrD : D → Bool
  | .str _ => true
  | _ => false
abbrev rJoin (K : Frag) : V → List V → Hp → VK → Prop := fun x xs H Q => ∃ a p, ∃ ys : List Str, x = .str a ∧ xs = [.ref p] ∧ (SqL K H p (ys.map V.str) ∨ SqT K H p (ys.map V.str)) ∧ (ys.map (·.length)).sum + ys.length * a.length ≤ 16777216 ∧ Q (.str (Txt.join a ys)) H
def dSm (f : D → D → Option D) (fa fb : DE) : DE := fun sd μ => (fa sd μ).bind fun d μ1 => if isStrD d = true then (fb sd μ1).bind fun e μ2 => lift (f d e) μ2 else .bad
/-- a method of texts with one argument -/
theorem ev_sm {K : Frag} {r : V → List V → Hp → VK → Prop} {f : D → D → Option D} (hr : ∀ (w : Wd) (μ : Mu) (σ : L2.St) x y d e z, Sim K g w μ → Rp K w.as w.F x d → Rp K w.as w.F y e → f d e = some z → Out K g W σ w (RelD K) (.ok z μ) fun Q => r x [y] w.H Q) (ha : EvD K g W ta fa) (hb : EvD K g W tb fb) :
    EvD K g W (tBM K "str" r ta (tCons tb tNil)) (dSm f fa fb) := fun H0 sd μ w σ SS S => by
  have z := ha H0 sd μ w σ SS S
  unfold dSm
  cases e1 : fa sd μ with
  | exc c μ1 => rw [e1] at z; exact fun Q q => z _ q
  | bad => trivial
  | ok d μ1 =>
    rw [e1] at z
    simp only [Res.bind_ok]
    cases d with
    | str x =>
      rw [if_pos (show isStrD (.str x) = true from rfl)]
      have y (w1 : Wd) (l1 : Le w w1) (S1 : Sim K g w1 μ1) := hb H0 sd μ1 w1 σ (SS.le l1) S1
      cases e2 : fb sd μ1 with
      | bad => trivial
      | exc c μ2 =>
        rw [e2] at y
        refine fun Q q => z _ fun w1 xv l1 S1 rx => ?_
        rw [rx.strV]
        exact ⟨rfl, tOne (y w1 l1 S1 _ fun w2 l2 S2 => q w2 (l1.trans l2) S2)⟩
      | ok e μ2 =>
        rw [e2] at y
        simp only [Res.bind_ok]
        cases e3 : f (.str x) e with
        | none => trivial
        | some v =>
          refine fun Q q => z _ fun w1 xv l1 S1 rx => ?_
          have ex := rx.strV
          subst ex
          exact ⟨rfl, tOne (y w1 l1 S1 _ fun w2 ev l2 S2 re => hr w2 μ2 σ (.str x) ev (.str x) e v S2 (.str x) re e3 Q fun w3 u l3 S3 ru => q w3 u ((l1.trans l2).trans l3) S3 ru)⟩
    | _ => trivial
theorem d_join (ha : PED X g W a ta fa) (hb : PED X g W b tb fb)
    (bm : PE X a ta → PA X [b] (tCons tb tNil) → PE X (.Call (.Attribute a "join" apos) [b] [] cpos) (tBM X.K "str" (rJoin X.K) ta (tCons tb tNil)) := by exact fun ho ha => pe_bm PySem.F.plainAttrs_str PySem.F.slot_str_join PySem.F.type_str_join mt_join ho ha)
    (hst : starEach [b] X.env = (false, eval b X.env) :: starEach [] X.env := by rfl) :
    PED X g W (.Call (.Attribute a "join" apos) [b] [] cpos) (tBM X.K "str" (rJoin X.K) ta (tCons tb tNil)) (dSm pyJoin fa fb) := ⟨bm ha.pe (pa_cons hb.pe pa_nil hst), ev_sm (fun w μ σ x y d e z S rx ry hz => by
  unfold pyJoin at hz
  split at hz
  · rename_i s ds
    cases e1 : asStrs ds with
    | none => rw [e1] at hz; cases hz
    | some ys =>
      rw [e1] at hz
      have hz : (if (ys.map (·.length)).sum + ys.length * s.length ≤ 16777216 then some (PyData.str (Txt.join s ys)) else none) = some z := hz
      split at hz
      · rename_i hl
        cases hz
        obtain ⟨p, vs, rfl, hp, ra⟩ := ry.lstV
        rw [asStrs_map e1] at ra
        have hv := RpA.strs ra
        subst hv
        rw [rx.strV]
        exact Out.ok S (.str _) fun Q q => ⟨s, p, ys, rfl, rfl, .inl (sqL_of (S.sub _ _ hp)), hl, q⟩
      · cases hz
  · cases hz) ha.ev hb.ev⟩
/-! ### text.split(sep) -/
def pySplit : D → D → Option D
  | .str a, .str b => if (b.length == 0) = false ∧ a.length + 2 ≤ sizeLine then some (.list ((Txt.split a b).map .str)) else none
  | _, _ => none
abbrev rSplit : V → List V → Hp → VK → Prop := fun x xs H Q => ∃ a b, x = .str a ∧ xs = [.str b] ∧ (b.length == 0) = false ∧ a.length + 2 ≤ sizeLine ∧ rNewStrs (Txt.split a b) H Q
theorem d_split (ha : PED X g W a ta fa) (hb : PED X g W b tb fb)
    (bm : PE X a ta → PA X [b] (tCons tb tNil) → PE X (.Call (.Attribute a "split" apos) [b] [] cpos) (tBM X.K "str" rSplit ta (tCons tb tNil)) := by exact fun ho ha => pe_bm PySem.F.plainAttrs_str PySem.F.slot_str_split PySem.F.type_str_split mt_split ho ha)
    (hst : starEach [b] X.env = (false, eval b X.env) :: starEach [] X.env := by rfl) :
    PED X g W (.Call (.Attribute a "split" apos) [b] [] cpos) (tBM X.K "str" rSplit ta (tCons tb tNil)) (dSm pySplit fa fb) := ⟨bm ha.pe (pa_cons hb.pe pa_nil hst), ev_sm (fun w μ σ x y d e z S rx ry hz => by
  unfold pySplit at hz
  split at hz
  · split at hz
    · rename_i s t h
      cases hz
      rw [rx.strV, ry.strV]
      exact Out.newL S (rpA_strs _) fun Q q => ⟨s, t, rfl, rfl, h.1, h.2, q⟩
    · cases hz
  · cases hz) ha.ev hb.ev⟩
end
/-! ### str(x), x an instance -/
open PySem.F in
theorem str_own {prog : Program} {w : World} {A : Around} {E : Value → Shared → Prop} {s : Shared} {K : PySem.W.Frag} {x C f : Addr} {ox : Obj} {odd : Option Obj} {Q : Value → Shared → Prop} (X : K.In s.heap) (I : PySem.W.InstAt s.heap x ox C odd) (hs : PySem.W.findIn K (.ref C) "__str__" = some (some (.ref f))) (hf : PySem.W.isFn K (.ref f) = true) (hu : A.units + 3 < cLine)
    (h : wpAny (model prog w) A.in1.in1 (call (.ref f) [.ref x]) (fun r s₁ => ∃ z t, r = Value.str z t ∧ Q r s₁) E s) : wpAny (model prog w) A (call (.type "str") [.ref x]) Q E s := by
  refine callType_codes (T := "str") (Bi := Builtin.«object.__init__») (Q₁ := fun r s₁ => ∃ z t, r = Value.str z t ∧ Q r s₁) PySem.F.called_str (PySem.F.typeCall_str_1 _) PySem.F.entry_object_init ?_ ?_
  · refine codeAny_of_tree ?_
    show wpAny _ A.in1.in1 (do checkBuiltinCall "str.__new__" ⟨[.type "str", .ref x], []⟩; again (.builtin "str.__new__" ⟨[.type "str", .ref x], []⟩)) _ _ s
    refine wpAny_bind (wpAny_of_eq (PySem.F.newCall_str_1 _) (wpAny_pure ⟨plainId_quiet (by decide +kernel) _, codeAny_builtin PySem.F.entry_str_new ?_⟩))
    rw [str_new_tree]
    refine wpAny_bind (wpAny_pure ?_)
    refine wpAny_bind (wpAny_of_eq isSubtype_str_str ?_)
    refine wpAny_bind ?_
    rw [Around.under_plainId (by decide +kernel) _]
    unfold Builtin.Str.strOf
    refine PySem.W.KFB.if_not rfl ?_
    refine wpAny_bind (wpAny_cRoomFor (by show A.units + 1 + 1 < cLine; omega) ?_)
    refine wpAny_bind (m := callSpecial? (.ref x) (PySem.Str.ofString "__str__")) (PySem.W.special_fn X I hs (beq_iff_eq.mp hf) (wpAny_mono h (fun r s' hr => ?_) fun _ _ y => y))
    obtain ⟨z, t, rfl, hq⟩ := hr
    refine wpAny_bind (wpAny_pure ?_)
    refine PySem.W.KFB.if_not rfl ?_
    exact wpAny_pure (wpAny_pure ⟨z, t, rfl, hq⟩)
  · rintro obj s₁ ⟨z, t, rfl, hq⟩
    exact ⟨typeIs_str _ _ _, PySem.F.args_object_init_2 _ _, object_init_meets PySem.F.called_str.init.lookup PySem.F.called_str.made (by decide) prog w A.in1 _ s₁ ⟨typeIs_str _ _ _, rfl, hq⟩⟩
section
variable {X : Cx} {g : G} {W : WX} {o : Expr} {ta : TE} {fa : DE} {pos p : Pos}
def rStrI (C : Addr) (sp : Sp) : List V → Hp → VK → Prop := fun xs H Q => ∃ a dx fs, xs = [.ref a] ∧ H a = some (.ins C dx fs) ∧ sp [.ref a] H (fun z H' => ∃ x, z = .str x ∧ Q z H') noE
theorem call_strI {k : Nat} {C f : Addr} {fd : FuncData} {ps : List Str} {sp : Sp} (hm : Meth X.K C "__str__" f) (F : FnOk X.prog X.w X.K X.mg X.base (L2.CX X.prog X.w) k f fd ps sp) (hr : Room (k + 2) X.A) (hu : X.A.units + 100 < cLine) (hb : Binds X.K fd ps []) : CallR X (.type "str") (rStrI C sp) := by
  intro pins s σ H xs us Q I r h
  obtain ⟨a, dx, fs, rfl, ha, q⟩ := h
  obtain ⟨u, rfl, ru⟩ := r.one
  cases (show u = Value.ref a from ru)
  obtain ⟨mA, J, _⟩ := ins_get I.hok ha
  obtain ⟨od, J, _⟩ := J.look
  have hr2 : Room k X.A.in1.in1 := (show Room (k + 1) X.A.in1 from Room.in1 hr).in1
  refine str_own I.kIn J hm.at_ hm.fn (by omega) (wpAny_mono (run_in (us := [.ref a]) (vs := [.ref a]) F hr2 I.env0.in1.in1 hb I (.cons rfl .nil) q) (fun v s' z => ?_) fun _ _ x => x)
  obtain ⟨z', H', I', rz, x, ex, qz⟩ := z
  subst ex
  obtain ⟨t, e⟩ := (show ∃ t, v = Value.str x t from rz)
  cases e
  exact ⟨x, t, rfl, .str x, H', I', ⟨t, rfl⟩, qz⟩
def dStrI (F : DF) (fa : DE) : DE := fun sd μ => (fa sd μ).bind fun d μ1 => if isInsD d μ1 = true then match F [d] μ1 with
  | .ok (.str x) μ2 => .ok (.str x) μ2
  | _ => .bad
  else .bad
theorem d_strI {k : Nat} {F : DF} (hF : FnM X.prog X.w X.K X.mg X.base g "__str__" k 1 F) (hr : Room (k + 2) X.A) (hu : X.A.units + 100 < cLine) (ho : PED X g W o ta fa) (hm : X.mg "str" = none) (hg : Gl X "str" := by rfl)
    (he : starEach [o] X.env = (false, eval o X.env) :: starEach [] X.env := by rfl) (hpl : (backTo pos (starEach [] X.env)).any (·.1) = false := by rfl) :
    PED X g W (.Call (.Name "str" p) [o] [] pos) (tCB (rStrI g.C (spD X.K g 1 F)) (tCons ta tNil)) (dStrI F fa) := by
  obtain ⟨f, fd, ps, hl, G, hmm, hb⟩ := hF.ex
  refine ⟨pe_callTy (call_strI hmm G hr hu hb) hg hm (by decide +kernel) (pa_cons ho.pe pa_nil he) (he := he) (hpl := hpl), fun H0 sd μ w σ SS S => ?_⟩
  refine Out.bind (T1 := fun x H1 Q => rStrI g.C (spD X.K g 1 F) [x] H1 Q) (ho.ev H0 sd μ w σ SS S) fun d μ1 w1 x l1 S1 r => ?_
  by_cases hi : isInsD d μ1 = true
  · rw [if_pos hi]
    obtain ⟨q, dx, vfs, ex, hH⟩ := insD_at hi S1 r
    cases e3 : F [d] μ1 with
    | bad => trivial
    | exc c μ2 => trivial
    | ok d2 μ2 =>
      cases d2 with
      | str z =>
        refine fun Q qq => ⟨q, dx, vfs, by rw [ex], hH, [d], μ1, w1, rfl, rfl, S1, .cons (ex ▸ r) .nil, ?_⟩
        rw [e3]
        exact fun w' v l' S' rv => ⟨z, rv.strV, qq w' v l' S' rv⟩
      | _ => trivial
  · rw [if_neg hi]
    trivial
end
end DL

set_option maxHeartbeats 4000000
/-! OLDen (printed by gen.py den): what each def computes, in the words of DL. -/
namespace OL
open PySem DL
abbrev k_SIZES : D := .tuple [.int 2, .int 4, .int 8]
abbrev k_MOST : D := .int 4
abbrev k_DIGITS : D := .str "0123456789"
abbrev e_BidError : Nat := 0
abbrev e_InvalidBid : Nat := 1
abbrev e_InvalidRoom : Nat := 2
abbrev e_InvalidNumber : Nat := 3
abbrev e_InvalidBidder : Nat := 4
abbrev e_InvalidGroup : Nat := 5
abbrev e_InvalidPrices : Nat := 6
abbrev e_NoPrices : Nat := 7
abbrev e_TooMany : Nat := 8
abbrev e_NothingToUndo : Nat := 9
abbrev e_ParseError : Nat := 10
def D_is_integer : DS := (sRet (dAndV (dIsi "int" (dVar 0)) (dAndV (dNotV (dIsi "bool" (dVar 0))) (dChain (dVar 1) (dVar 0) (dVar 2)))))
def F_is_integer : DF := fnD 3 D_is_integer

def D_things_in : DS := (sRet (dShare (dLc (iRg1 (dC (.int 3))) (gN 1) (dTest (dBin pyEq (dBin pyMod (dBin pyDiv (dVar 0) (dBin pyDiv (dBin pyIx (dC k_SIZES) (dVar 1)) (dC (.int 2)))) (dC (.int 2))) (dC (.int 1)))) (dVar 1) [1])))
def F_things_in : DF := fnD 2 D_things_in

def D_rises : DS := (sSeq (sFor (iRg1 (dCB pyLen (aCons (dVar 0) aNil))) (gN 1)
    (sFor (iRg1 (dC (.int 3))) (gN 2)
    (sSeq (sAsg 3 (xV (dBin pyDiv (dBin pyIx (dC k_SIZES) (dVar 2)) (dC (.int 2)))))
    (sIf (dAnd (dTest (dBin pyLt (dVar 3) (dCB pyLen (aCons (dVar 0) aNil)))) (dAnd (dTest (dBin pyNotIn (dVar 2) (dCall F_things_in (aCons (dVar 1) aNil)))) (dTest (dBin pyGt (dBin pyIx (dVar 0) (dVar 1)) (dBin pyIx (dVar 0) (dBin pyAdd (dVar 1) (dVar 3))))))) (sRet (dC (.bool false))) sNext))))
    (sRet (dC (.bool true))))
def F_rises : DF := fnD 4 D_rises

def D_bids_for : DS := (sSeq (sIf (dOr (dNot (dTest (dIsi "tuple" (dVar 0)))) (dOr (dTest (dBin pyNe (dCB pyLen (aCons (dVar 0) aNil)) (dVar 1))) (dNot (dTest (dCB pyAll (aCons (dShare (dLc (iAny (dVar 0)) (gN 2) dYes (dCall F_is_integer (aCons (dVar 2) (aCons (dC (.int 0)) (aCons (dC (.int 9)) aNil)))) [2])) aNil)))))) (sRet (dC (.bool false))) sNext)
    (sRet (dAndV (dBin pyEq (dBin pyIx (dVar 0) (dC (.int 0))) (dC (.int 0))) (dCall F_rises (aCons (dVar 0) aNil)))))
def F_bids_for : DF := fnD 3 D_bids_for

def D_check_things : DS := (sIf (dNot (dTest (dCall F_is_integer (aCons (dVar 0) (aCons (dC (.int 1)) (aCons (dC (.int 3)) aNil)))))) (sRaise e_InvalidNumber) sNext)
def F_check_things : DF := fnD 1 D_check_things

def D_is_bid : DS := (sSeq (sDrop (dCall F_check_things (aCons (dVar 0) aNil)))
    (sRet (dCall F_bids_for (aCons (dVar 1) (aCons (dBin pyIx (dC k_SIZES) (dBin pySub (dVar 0) (dC (.int 1)))) aNil)))))
def F_is_bid : DF := fnD 2 D_is_bid

def D_is_room : DS := (sSeq (sIf (dOr (dNot (dTest (dIsi "tuple" (dVar 0)))) (dNot (dTest (dChain (dC (.int 1)) (dCB pyLen (aCons (dVar 0) aNil)) (dC k_MOST))))) (sRet (dC (.bool false))) sNext)
    (sSeq (sFor (iAny (dC k_SIZES)) (gN 1)
    (sIf (dTest (dCB pyAll (aCons (dShare (dLc (iAny (dVar 0)) (gN 2) dYes (dCall F_bids_for (aCons (dVar 2) (aCons (dVar 1) aNil))) [2])) aNil))) (sRet (dC (.bool true))) sNext))
    (sRet (dC (.bool false)))))
def F_is_room : DF := fnD 3 D_is_room

def D_check_worths : DS := (sSeq (sIf (dOr (dNot (dTest (dIsi "tuple" (dVar 0)))) (dNot (dTest (dChain (dC (.int 1)) (dCB pyLen (aCons (dVar 0) aNil)) (dC (.int 3)))))) (sRaise e_InvalidNumber) sNext)
    (sIf (dNot (dTest (dCB pyAll (aCons (dShare (dLc (iAny (dVar 0)) (gN 2) dYes (dCall F_is_integer (aCons (dVar 2) (aCons (dC (.int 0)) (aCons (dVar 1) aNil)))) [2])) aNil)))) (sRaise e_InvalidNumber) sNext))
def F_check_worths : DF := fnD 3 D_check_worths

def D_sum_bid : DS := (sSeq (sDrop (dCall F_check_worths (aCons (dVar 0) (aCons (dC (.int 3)) aNil))))
    (sSeq (sAsg 1 (xV (dBin pyIx (dC k_SIZES) (dBin pySub (dCB pyLen (aCons (dVar 0) aNil)) (dC (.int 1))))))
    (sRet (dCB pyTuple (aCons (dShare (dLc (iRg1 (dVar 1)) (gN 2) dYes (dCB pySum (aCons (dShare (dLc (iAny (dCall F_things_in (aCons (dVar 2) aNil))) (gN 3) dYes (dBin pyIx (dVar 0) (dVar 3)) [3])) aNil)) [2])) aNil)))))
def F_sum_bid : DF := fnD 4 D_sum_bid

def D_single_bid : DS := (sSeq (sDrop (dCall F_check_worths (aCons (dVar 0) (aCons (dC (.int 9)) aNil))))
    (sSeq (sAsg 1 (xV (dBin pyIx (dC k_SIZES) (dBin pySub (dCB pyLen (aCons (dVar 0) aNil)) (dC (.int 1))))))
    (sRet (dCB pyTuple (aCons (dShare (dLc (iRg1 (dVar 1)) (gN 2) dYes (dCB pyMax (aCons (dBin pyAdd (dShare (dLc (iAny (dCall F_things_in (aCons (dVar 2) aNil))) (gN 3) dYes (dBin pyIx (dVar 0) (dVar 3)) [3])) (dShare (dLst (aCons (dC (.int 0)) aNil)))) aNil)) [2])) aNil)))))
def F_single_bid : DF := fnD 4 D_single_bid

def D_holds : DS := (sRet (dCB pyAll (aCons (dShare (dLc (iAny (dCall F_things_in (aCons (dVar 1) aNil))) (gN 2) dYes (dBin pyIn (dVar 2) (dCall F_things_in (aCons (dVar 0) aNil))) [2])) aNil)))
def F_holds : DF := fnD 3 D_holds

def D_package_bid : DS := (sSeq (sDrop (dCall F_check_things (aCons (dVar 0) aNil)))
    (sSeq (sIf (dOr (dNot (dTest (dCall F_is_integer (aCons (dVar 1) (aCons (dC (.int 1)) (aCons (dBin pySub (dBin pyIx (dC k_SIZES) (dBin pySub (dVar 0) (dC (.int 1)))) (dC (.int 1))) aNil)))))) (dNot (dTest (dCall F_is_integer (aCons (dVar 2) (aCons (dC (.int 0)) (aCons (dC (.int 9)) aNil))))))) (sRaise e_InvalidNumber) sNext)
    (sRet (dCB pyTuple (aCons (dShare (dLc (iRg1 (dBin pyIx (dC k_SIZES) (dBin pySub (dVar 0) (dC (.int 1))))) (gN 3) dYes (dIf (dTest (dCall F_holds (aCons (dVar 3) (aCons (dVar 1) aNil)))) (dVar 2) (dC (.int 0))) [3])) aNil)))))
def F_package_bid : DF := fnD 4 D_package_bid

def D__law_cell_at : DS := (sSeq (sIf (dTest (dBin pyLt (dVar 1) (dCB pyLen (aCons (dVar 0) aNil)))) (sRet (dBin pyIx (dVar 0) (dVar 1))) sNext)
    (sSeq (sIf (dTest (dBin pyEq (dVar 0) (dShare (dLst aNil)))) (sRet (dC (.int 0))) sNext)
    (sSeq (sAsg 2 (xV (dBin pyIx (dVar 0) (dBin pyMod (dVar 1) (dCB pyLen (aCons (dVar 0) aNil))))))
    (sSeq (sFor (iRg1 (dCB pyMin (aCons (dBin pyDiv (dVar 1) (dCB pyLen (aCons (dVar 0) aNil))) (aCons (dC (.int 60)) aNil)))) (gN 3)
    (sAsg 2 (xV (dBin pyDiv (dVar 2) (dC (.int 1000003))))))
    (sRet (dBin pyAdd (dBin pyAdd (dBin pyMul (dBin pyIx (dVar 0) (dBin pyMod (dVar 1) (dCB pyLen (aCons (dVar 0) aNil)))) (dC (.int 31))) (dVar 1)) (dBin pyMul (dVar 2) (dC (.int 101)))))))))
def F__law_cell_at : DF := fnD 4 D__law_cell_at

def D__law_mixed : DS := (sSeq (sAsg 3 (xV (dBin pyMod (dBin pyAdd (dBin pyAdd (dBin pyMul (dCall F__law_cell_at (aCons (dVar 0) (aCons (dVar 1) aNil))) (dC (.int 1103515245))) (dBin pyMul (dC (.int 7919)) (dVar 1))) (dC (.int 12345))) (dC (.int 2147483647)))))
    (sRet (dBin pyMod (dBin pyMod (dBin pyMod (dBin pyPow (dVar 3) (dC (.int 5))) (dC (.int 2147483647))) (dC (.int 999983))) (dVar 2))))
def F__law_mixed : DF := fnD 4 D__law_mixed

def D__law_draw : DS := (sSeq (sAppT 1 (dC (.int 0)))
    (sRet (dCall F__law_mixed (aCons (dVar 0) (aCons (dCB pyLen (aCons (dVar 1) aNil)) (aCons (dVar 2) aNil))))))
def F__law_draw : DF := fnD 3 D__law_draw

def D__law_same_truth : DS := (sRet (dAndV (dIsi "bool" (dVar 0)) (dBin pyEq (dVar 0) (dVar 1))))
def F__law_same_truth : DF := fnD 2 D__law_same_truth

def D__law_inside : DS := (sRet (dShare (dLc (iEn (dShare (dLst (aCons (dC (.int 1)) (aCons (dC (.int 2)) (aCons (dC (.int 4)) aNil)))))) (g2 1 2) (dTest (dBin pyEq (dBin pyMod (dBin pyDiv (dVar 0) (dVar 2)) (dC (.int 2))) (dC (.int 1)))) (dVar 1) [1, 2])))
def F__law_inside : DF := fnD 3 D__law_inside

def D__law_some_bid : DS := (sSeq (sAsg 4 (xV (dBin pyIx (dShare (dLst (aCons (dC (.int 2)) (aCons (dC (.int 4)) (aCons (dC (.int 8)) aNil))))) (dBin pySub (dVar 2) (dC (.int 1))))))
    (sSeq (sIf (dTest (dBin pyEq (dVar 3) (dC (.int 1)))) (sSeq (sAsg 5 (xV (dShare (dLc (iRg1 (dVar 2)) (gN 6) dYes (dCall F__law_draw (aCons (dVar 0) (aCons (dVar 1) (aCons (dC (.int 4)) aNil)))) [6]))))
    (sRet (dCB pyTuple (aCons (dShare (dLc (iRg1 (dVar 4)) (gN 7) dYes (dCB pySum (aCons (dShare (dLc (iAny (dCall F__law_inside (aCons (dVar 7) aNil))) (gN 8) dYes (dBin pyIx (dVar 5) (dVar 8)) [8])) aNil)) [7])) aNil)))) sNext)
    (sSeq (sIf (dTest (dBin pyEq (dVar 3) (dC (.int 2)))) (sSeq (sAsg 5 (xV (dShare (dLc (iRg1 (dVar 2)) (gN 6) dYes (dCall F__law_draw (aCons (dVar 0) (aCons (dVar 1) (aCons (dC (.int 10)) aNil)))) [6]))))
    (sRet (dCB pyTuple (aCons (dShare (dLc (iRg1 (dVar 4)) (gN 7) dYes (dCB pyMax (aCons (dBin pyAdd (dShare (dLst (aCons (dC (.int 0)) aNil))) (dShare (dLc (iAny (dCall F__law_inside (aCons (dVar 7) aNil))) (gN 8) dYes (dBin pyIx (dVar 5) (dVar 8)) [8]))) aNil)) [7])) aNil)))) sNext)
    (sSeq (sIf (dTest (dBin pyEq (dVar 3) (dC (.int 3)))) (sSeq (sPar 9 10 (xV (dBin pyAdd (dC (.int 1)) (dCall F__law_draw (aCons (dVar 0) (aCons (dVar 1) (aCons (dBin pySub (dVar 4) (dC (.int 1))) aNil)))))) (xV (dCall F__law_draw (aCons (dVar 0) (aCons (dVar 1) (aCons (dC (.int 10)) aNil))))))
    (sSeq (sAsg 11 (xO (dLst aNil)))
    (sSeq (sFor (iRg1 (dVar 4)) (gN 7)
    (sApp 11 (dIf (dTest (dBin pyEq (dShare (dLc (iAny (dCall F__law_inside (aCons (dVar 9) aNil))) (gN 8) (dTest (dBin pyNotIn (dVar 8) (dCall F__law_inside (aCons (dVar 7) aNil)))) (dC (.int 1)) [8])) (dShare (dLst aNil)))) (dVar 10) (dC (.int 0)))))
    (sFreeze 11 (sRet (dCB pyTuple (aCons (dVar 11) aNil))))))) sNext)
    (sSeq (sAsg 11 (xO (dLst (aCons (dC (.int 0)) aNil))))
    (sSeq (sFor (iRg2 (dC (.int 1)) (dVar 4)) (gN 7)
    (sSeq (sAsg 12 (xV (dCB pyMax (aCons (dShare (dLc (iAny (dCall F__law_inside (aCons (dVar 7) aNil))) (gN 8) dYes (dIxV 11 (dBin pySub (dVar 7) (dBin pyIx (dShare (dLst (aCons (dC (.int 1)) (aCons (dC (.int 2)) (aCons (dC (.int 4)) aNil))))) (dVar 8)))) [8])) aNil))))
    (sApp 11 (dCB pyMin (aCons (dC (.int 9)) (aCons (dBin pyAdd (dVar 12) (dBin pyIx (dShare (dLst (aCons (dC (.int 0)) (aCons (dC (.int 0)) (aCons (dC (.int 1)) (aCons (dC (.int 2)) (aCons (dC (.int 5)) aNil))))))) (dCall F__law_draw (aCons (dVar 0) (aCons (dVar 1) (aCons (dC (.int 5)) aNil)))))) aNil))))))
    (sFreeze 11 (sRet (dCB pyTuple (aCons (dVar 11) aNil))))))))))
def F__law_some_bid : DF := fnD 13 D__law_some_bid

def D__law_some_room : DS := (sSeq (sPar 3 4 (xV (dBin pyAdd (dC (.int 1)) (dCall F__law_draw (aCons (dVar 0) (aCons (dVar 1) (aCons (dC (.int 3)) aNil)))))) (xO (dLst aNil)))
    (sSeq (sFor (iRg1 (dBin pyAdd (dC (.int 1)) (dCall F__law_draw (aCons (dVar 0) (aCons (dVar 1) (aCons (dVar 2) aNil)))))) (gN 5)
    (sApp 4 (dCall F__law_some_bid (aCons (dVar 0) (aCons (dVar 1) (aCons (dVar 3) (aCons (dCall F__law_draw (aCons (dVar 0) (aCons (dVar 1) (aCons (dC (.int 4)) aNil)))) aNil)))))))
    (sFreeze 4 (sRet (dCB pyTuple (aCons (dVar 4) aNil))))))
def F__law_some_room : DF := fnD 6 D__law_some_room

def D_check_room : DS := (sIf (dNot (dTest (dCall F_is_room (aCons (dVar 0) aNil)))) (sRaise e_InvalidRoom) sNext)
def F_check_room : DF := fnD 1 D_check_room

def D_allotments : DS := (sSeq (sAsg 2 (xV (dShare (dLst (aCons (dBin pyMul (dTup (aCons (dC (.int 0)) aNil)) (dCB pyLen (aCons (dVar 0) aNil))) aNil)))))
    (sSeq (sAsg 3 (xV (dC (.int 1))))
    (sSeq (whLoop (dTest (dBin pyLt (dVar 3) (dCB pyLen (aCons (dBin pyIx (dVar 0) (dC (.int 0))) aNil))))
    (sSeq (sAsg 4 (xO (lList (dVar 2))))
    (sSeq (sFor (iAny (dVar 2)) (gN 5)
    (sFor (iAny (dVar 1)) (gN 6)
    (sApp 4 (dBin pyAdd (dBin pyAdd (dSl (dVar 5) oNone (oSome (dVar 6))) (dTup (aCons (dBin pyAdd (dBin pyIx (dVar 5) (dVar 6)) (dVar 3)) aNil))) (dSl (dVar 5) (oSome (dBin pyAdd (dVar 6) (dC (.int 1)))) oNone)))))
    (sFreeze 4 (sSeq (sAsg 2 (xV (dVar 4)))
    (sAsg 3 (xV (dBin pyMul (dC (.int 2)) (dVar 3)))))))) 100)
    (sRet (dCB pySorted (aCons (dVar 2) aNil))))))
def F_allotments : DF := fnD 7 D_allotments

def D_total_of : DS := (sRet (dCB pySum (aCons (dShare (dLc (iZ2 (dVar 0) (dVar 1)) (g2 2 3) dYes (dBin pyIx (dVar 2) (dVar 3)) [2, 3])) aNil)))
def F_total_of : DF := fnD 4 D_total_of

def D_best_for : DS := (sSeq (sAsg 2 (xV (dC .none)))
    (sSeq (sFor (iAny (dCall F_allotments (aCons (dVar 0) (aCons (dVar 1) aNil)))) (gN 3)
    (sSeq (sAsg 4 (xV (dCall F_total_of (aCons (dVar 0) (aCons (dVar 3) aNil)))))
    (sIf (dOr (dTest (dBin (pyIs false) (dVar 2) (dC .none))) (dTest (dBin pyGt (dVar 4) (dBin pyIx (dVar 2) (dC (.int 0)))))) (sAsg 2 (xV (dTup (aCons (dVar 4) (aCons (dVar 3) aNil))))) sNext)))
    (sRet (dVar 2))))
def F_best_for : DF := fnD 5 D_best_for

def D_everyone : DS := (sRet (dShare (lRange (dCB pyLen (aCons (dVar 0) aNil)))))
def F_everyone : DF := fnD 1 D_everyone

def D_best_allotment : DS := (sSeq (sDrop (dCall F_check_room (aCons (dVar 0) aNil)))
    (sRet (dBin pyIx (dCall F_best_for (aCons (dVar 0) (aCons (dCall F_everyone (aCons (dVar 0) aNil)) aNil))) (dC (.int 1)))))
def F_best_allotment : DF := fnD 1 D_best_allotment

def D_check_group : DS := (sSeq (sIf (dOr (dNot (dTest (dIsi "tuple" (dVar 1)))) (dNot (dTest (dCB pyAll (aCons (dShare (dLc (iAny (dVar 1)) (gN 2) dYes (dCall F_is_integer (aCons (dVar 2) (aCons (dC (.int 0)) (aCons (dBin pySub (dCB pyLen (aCons (dVar 0) aNil)) (dC (.int 1))) aNil)))) [2])) aNil))))) (sRaise e_InvalidGroup) sNext)
    (sIf (dNot (dTest (dCB pyAll (aCons (dShare (dLc (iZ2 (dVar 1) (dSl (dVar 1) (oSome (dC (.int 1))) oNone)) (g2 2 3) dYes (dBin pyLt (dVar 2) (dVar 3)) [2, 3])) aNil)))) (sRaise e_InvalidGroup) sNext))
def F_check_group : DF := fnD 4 D_check_group

def D_best_total : DS := (sSeq (sDrop (dCall F_check_room (aCons (dVar 0) aNil)))
    (sSeq (sDrop (dCall F_check_group (aCons (dVar 0) (aCons (dVar 1) aNil))))
    (sRet (dBin pyIx (dCall F_best_for (aCons (dVar 0) (aCons (dShare (lList (dVar 1))) aNil))) (dC (.int 0))))))
def F_best_total : DF := fnD 2 D_best_total

def D_total : DS := (sSeq (sDrop (dCall F_check_room (aCons (dVar 0) aNil)))
    (sSeq (sIf (dOr (dNot (dTest (dIsi "tuple" (dVar 1)))) (dTest (dBin pyNe (dCB pyLen (aCons (dVar 1) aNil)) (dCB pyLen (aCons (dVar 0) aNil))))) (sRet (dC .none)) sNext)
    (sSeq (sIf (dNot (dTest (dCB pyAll (aCons (dShare (dLc (iAny (dVar 1)) (gN 2) dYes (dCall F_is_integer (aCons (dVar 2) (aCons (dC (.int 0)) (aCons (dBin pySub (dCB pyLen (aCons (dBin pyIx (dVar 0) (dC (.int 0))) aNil)) (dC (.int 1))) aNil)))) [2])) aNil)))) (sRet (dC .none)) sNext)
    (sSeq (sAsg 3 (xO (dLst aNil)))
    (sSeq (sFor (iAny (dVar 1)) (gN 2)
    (sExt 3 (xV (dCall F_things_in (aCons (dVar 2) aNil)))))
    (sFreeze 3 (sRet (dIf (dTest (dBin pyEq (dUn pyLenSet (dVar 3)) (dCB pyLen (aCons (dVar 3) aNil)))) (dCall F_total_of (aCons (dVar 0) (aCons (dVar 1) aNil))) (dC .none)))))))))
def F_total : DF := fnD 4 D_total

def D__law_pick : DS := (sRet (dBin pyIx (dVar 2) (dCall F__law_draw (aCons (dVar 0) (aCons (dVar 1) (aCons (dCB pyLen (aCons (dVar 2) aNil)) aNil))))))
def F__law_pick : DF := fnD 3 D__law_pick

def D__law_same_number : DS := (sRet (dAndV (dIsi "int" (dVar 0)) (dAndV (dNotV (dIsi "bool" (dVar 0))) (dBin pyEq (dVar 0) (dVar 1)))))
def F__law_same_number : DF := fnD 2 D__law_same_number

def D__law_shares : DS := (sSeq (sAsg 1 (xV (dShare (dLst (aCons (dTup aNil) aNil)))))
    (sSeq (sFor (iAny (dVar 0)) (gN 2)
    (sSeq (sAsg 3 (xO (dLst aNil)))
    (sSeq (sFor (iAny (dVar 1)) (gN 4)
    (sSeq (sAsg 5 (xV (dCB pySum (aCons (dVar 4) aNil))))
    (sFor (iRg1 (dCB pyLen (aCons (dVar 2) aNil))) (gN 6)
    (sIf (dTest (dBin pyEq (dShare (dLc (iAny (dCall F__law_inside (aCons (dVar 6) aNil))) (gN 7) (dTest (dBin pyIn (dVar 7) (dCall F__law_inside (aCons (dVar 5) aNil)))) (dC (.int 1)) [7])) (dShare (dLst aNil)))) (sApp 3 (dBin pyAdd (dVar 4) (dTup (aCons (dVar 6) aNil)))) sNext))))
    (sFreeze 3 (sAsg 1 (xV (dVar 3)))))))
    (sRet (dVar 1))))
def F__law_shares : DF := fnD 8 D__law_shares

def D__law_worth_of : DS := (sRet (dCB pySum (aCons (dShare (dLc (iZ2 (dVar 0) (dVar 1)) (g2 2 3) dYes (dBin pyIx (dVar 2) (dVar 3)) [2, 3])) aNil)))
def F__law_worth_of : DF := fnD 4 D__law_worth_of

def D__law_most_for : DS := (sSeq (sAsg 2 (xV (dC (.int 0))))
    (sSeq (sFor (iAny (dCall F__law_shares (aCons (dVar 0) aNil))) (gN 3)
    (sIf (dTest (dBin pyEq (dShare (dLc (iEn (dVar 3)) (g2 4 5) (dAnd (dTest (dBin pyGt (dVar 5) (dC (.int 0)))) (dTest (dBin pyNotIn (dVar 4) (dVar 1)))) (dC (.int 1)) [4, 5])) (dShare (dLst aNil)))) (sAsg 2 (xV (dCB pyMax (aCons (dVar 2) (aCons (dCall F__law_worth_of (aCons (dVar 0) (aCons (dVar 3) aNil))) aNil))))) sNext))
    (sRet (dVar 2))))
def F__law_most_for : DF := fnD 6 D__law_most_for

def D__law_first_best : DS := (sSeq (sAsg 1 (xV (dC .none)))
    (sSeq (sFor (iAny (dCall F__law_shares (aCons (dVar 0) aNil))) (gN 2)
    (sIf (dOr (dTest (dBin (pyIs false) (dVar 1) (dC .none))) (dTest (dBin pyGt (dCall F__law_worth_of (aCons (dVar 0) (aCons (dVar 2) aNil))) (dCall F__law_worth_of (aCons (dVar 0) (aCons (dVar 1) aNil)))))) (sAsg 1 (xV (dVar 2))) sNext))
    (sRet (dVar 1))))
def F__law_first_best : DF := fnD 3 D__law_first_best

def D_outcome : DS := (sSeq (sUnp (g2 1 2) (dCall F_best_for (aCons (dVar 0) (aCons (dCall F_everyone (aCons (dVar 0) aNil)) aNil))))
    (sSeq (sAsg 3 (xO (dLst aNil)))
    (sSeq (sFor (iEn (dVar 2)) (g2 4 5)
    (sSeq (sAsg 6 (xO (dLc (iAny (dCall F_everyone (aCons (dVar 0) aNil))) (gN 7) (dTest (dBin pyNe (dVar 7) (dVar 4))) (dVar 7) [7])))
    (sFreeze 6 (sApp 3 (dBin pySub (dBin pyIx (dCall F_best_for (aCons (dVar 0) (aCons (dVar 6) aNil))) (dC (.int 0))) (dBin pySub (dVar 1) (dBin pyIx (dBin pyIx (dVar 0) (dVar 4)) (dVar 5))))))))
    (sFreeze 3 (sRet (dTup (aCons (dVar 2) (aCons (dVar 3) aNil))))))))
def F_outcome : DF := fnD 8 D_outcome

def D_payments : DS := (sSeq (sDrop (dCall F_check_room (aCons (dVar 0) aNil)))
    (sRet (dBin pyIx (dCall F_outcome (aCons (dVar 0) aNil)) (dC (.int 1)))))
def F_payments : DF := fnD 1 D_payments

def D_kept_list : DS := (sSeq (sUnp (g2 1 2) (dCall F_outcome (aCons (dVar 0) aNil)))
    (sRet (dShare (dLc (iZ3 (dVar 0) (dVar 1) (dVar 2)) (g3 3 4 5) dYes (dBin pySub (dBin pyIx (dVar 3) (dVar 4)) (dVar 5)) [3, 4, 5]))))
def F_kept_list : DF := fnD 6 D_kept_list

def D_kept : DS := (sSeq (sDrop (dCall F_check_room (aCons (dVar 0) aNil)))
    (sRet (dCall F_kept_list (aCons (dVar 0) aNil))))
def F_kept : DF := fnD 1 D_kept

def D__law_pays : DS := (sSeq (sPar 1 2 (xV (dCall F__law_first_best (aCons (dVar 0) aNil))) (xO (dLst aNil)))
    (sSeq (sFor (iRg1 (dCB pyLen (aCons (dVar 0) aNil))) (gN 3)
    (sSeq (sAsg 4 (xO (dLc (iRg1 (dCB pyLen (aCons (dVar 0) aNil))) (gN 5) (dTest (dBin pyNe (dVar 5) (dVar 3))) (dVar 5) [5])))
    (sFreeze 4 (sApp 2 (dBin pySub (dCall F__law_most_for (aCons (dVar 0) (aCons (dVar 4) aNil))) (dCB pySum (aCons (dShare (dLc (iAny (dVar 4)) (gN 5) dYes (dBin pyIx (dBin pyIx (dVar 0) (dVar 5)) (dBin pyIx (dVar 1) (dVar 5))) [5])) aNil)))))))
    (sFreeze 2 (sRet (dVar 2)))))
def F__law_pays : DF := fnD 6 D__law_pays

def D_kept_by : DS := (sSeq (sDrop (dCall F_check_room (aCons (dVar 0) aNil)))
    (sSeq (sIf (dNot (dTest (dCall F_is_integer (aCons (dVar 1) (aCons (dC (.int 0)) (aCons (dBin pySub (dCB pyLen (aCons (dVar 0) aNil)) (dC (.int 1))) aNil)))))) (sRaise e_InvalidBidder) sNext)
    (sSeq (sIf (dNot (dTest (dCall F_bids_for (aCons (dVar 2) (aCons (dCB pyLen (aCons (dBin pyIx (dVar 0) (dC (.int 0))) aNil)) aNil))))) (sRaise e_InvalidBid) sNext)
    (sSeq (sUnp (g2 3 4) (dCall F_outcome (aCons (dBin pyAdd (dBin pyAdd (dSl (dVar 0) oNone (oSome (dVar 1))) (dTup (aCons (dVar 2) aNil))) (dSl (dVar 0) (oSome (dBin pyAdd (dVar 1) (dC (.int 1)))) oNone)) aNil)))
    (sRet (dBin pySub (dBin pyIx (dBin pyIx (dVar 0) (dVar 1)) (dBin pyIx (dVar 3) (dVar 1))) (dBin pyIx (dVar 4) (dVar 1))))))))
def F_kept_by : DF := fnD 5 D_kept_by

def D_gains : DS := (sSeq (sAsg 2 (xV (dCall F_kept_list (aCons (dVar 0) aNil))))
    (sRet (dBin pyGt (dBin pyIx (dCall F_best_for (aCons (dVar 0) (aCons (dShare (lList (dVar 1))) aNil))) (dC (.int 0))) (dBin pyAdd (dCB pySum (aCons (dBin pyIx (dCall F_outcome (aCons (dVar 0) aNil)) (dC (.int 1))) aNil)) (dCB pySum (aCons (dShare (dLc (iAny (dVar 1)) (gN 3) dYes (dBin pyIx (dVar 2) (dVar 3)) [3])) aNil))))))
def F_gains : DF := fnD 4 D_gains

def D_objects : DS := (sSeq (sDrop (dCall F_check_room (aCons (dVar 0) aNil)))
    (sSeq (sDrop (dCall F_check_group (aCons (dVar 0) (aCons (dVar 1) aNil))))
    (sRet (dCall F_gains (aCons (dVar 0) (aCons (dVar 1) aNil))))))
def F_objects : DF := fnD 2 D_objects

def D_group_list : DS := (sSeq (sAsg 1 (xV (dShare (dLst (aCons (dTup aNil) aNil)))))
    (sSeq (sFor (iAny (dCall F_everyone (aCons (dVar 0) aNil))) (gN 2)
    (sAsg 1 (xV (dBin pyAdd (dVar 1) (dShare (dLc (iAny (dVar 1)) (gN 3) dYes (dBin pyAdd (dVar 3) (dTup (aCons (dVar 2) aNil))) [3]))))))
    (sRet (dCB pySorted (aCons (dShare (dLc (iAny (dVar 1)) (gN 3) (dTest (dCall F_gains (aCons (dVar 0) (aCons (dVar 3) aNil)))) (dVar 3) [3])) aNil)))))
def F_group_list : DF := fnD 4 D_group_list

def D_objecting : DS := (sSeq (sDrop (dCall F_check_room (aCons (dVar 0) aNil)))
    (sRet (dCall F_group_list (aCons (dVar 0) aNil))))
def F_objecting : DF := fnD 1 D_objecting

def D_is_calm : DS := (sSeq (sDrop (dCall F_check_room (aCons (dVar 0) aNil)))
    (sRet (dBin pyEq (dCall F_group_list (aCons (dVar 0) aNil)) (dShare (dLst aNil)))))
def F_is_calm : DF := fnD 1 D_is_calm

def D__law_plain_room : DS := (sSeq (sPar 4 5 (xV (dBin pyAdd (dC (.int 1)) (dCall F__law_draw (aCons (dVar 0) (aCons (dVar 1) (aCons (dC (.int 3)) aNil)))))) (xO (dLst aNil)))
    (sSeq (sFor (iRg1 (dBin pyAdd (dC (.int 1)) (dCall F__law_draw (aCons (dVar 0) (aCons (dVar 1) (aCons (dVar 2) aNil)))))) (gN 6)
    (sApp 5 (dCall F__law_some_bid (aCons (dVar 0) (aCons (dVar 1) (aCons (dVar 4) (aCons (dCall F__law_pick (aCons (dVar 0) (aCons (dVar 1) (aCons (dVar 3) aNil)))) aNil)))))))
    (sFreeze 5 (sRet (dCB pyTuple (aCons (dVar 5) aNil))))))
def F__law_plain_room : DF := fnD 7 D__law_plain_room

def D_count_things : DS := (sRet (dCB pyLen (aCons (dCall F_things_in (aCons (dBin pySub (dCB pyLen (aCons (dBin pyIx (dVar 0) (dC (.int 0))) aNil)) (dC (.int 1))) aNil)) aNil)))
def F_count_things : DF := fnD 1 D_count_things

def D_price_of : DS := (sRet (dCB pySum (aCons (dShare (dLc (iAny (dCall F_things_in (aCons (dVar 1) aNil))) (gN 2) dYes (dBin pyIx (dVar 0) (dVar 2)) [2])) aNil)))
def F_price_of : DF := fnD 3 D_price_of

def D_parts : DS := (sSeq (sIf (dTest (dBin pyGt (dCall F_price_of (aCons (dVar 2) (aCons (dBin pySub (dBin pySub (dCB pyLen (aCons (dBin pyIx (dVar 0) (dC (.int 0))) aNil)) (dC (.int 1))) (dCB pySum (aCons (dVar 1) aNil))) aNil))) (dC (.int 0)))) (sRet (dC (.bool false))) sNext)
    (sSeq (sFor (iZ2 (dVar 0) (dVar 1)) (g2 3 4)
    (sSeq (sAsg 5 (xV (dCB pyMax (aCons (dShare (dLc (iEn (dVar 3)) (g2 6 7) dYes (dBin pySub (dVar 7) (dCall F_price_of (aCons (dVar 2) (aCons (dVar 6) aNil)))) [6, 7])) aNil))))
    (sIf (dTest (dBin pyGt (dVar 5) (dBin pySub (dBin pyIx (dVar 3) (dVar 4)) (dCall F_price_of (aCons (dVar 2) (aCons (dVar 4) aNil)))))) (sRet (dC (.bool false))) sNext)))
    (sRet (dC (.bool true)))))
def F_parts : DF := fnD 8 D_parts

def D_do_part : DS := (sSeq (sDrop (dCall F_check_room (aCons (dVar 0) aNil)))
    (sSeq (sIf (dOr (dNot (dTest (dIsi "tuple" (dVar 1)))) (dTest (dBin pyNe (dCB pyLen (aCons (dVar 1) aNil)) (dCall F_count_things (aCons (dVar 0) aNil))))) (sRaise e_InvalidPrices) sNext)
    (sSeq (sIf (dNot (dTest (dCB pyAll (aCons (dShare (dLc (iAny (dVar 1)) (gN 2) dYes (dCall F_is_integer (aCons (dVar 2) (aCons (dC (.int 0)) (aCons (dC (.int 9)) aNil)))) [2])) aNil)))) (sRaise e_InvalidPrices) sNext)
    (sRet (dCall F_parts (aCons (dVar 0) (aCons (dBin pyIx (dCall F_best_for (aCons (dVar 0) (aCons (dCall F_everyone (aCons (dVar 0) aNil)) aNil))) (dC (.int 1))) (aCons (dVar 1) aNil))))))))
def F_do_part : DF := fnD 3 D_do_part

def D_price_list : DS := (sSeq (sAsg 1 (xV (dShare (dLst (aCons (dTup aNil) aNil)))))
    (sSeq (sFor (iRg1 (dCall F_count_things (aCons (dVar 0) aNil))) (gN 2)
    (sSeq (sAsg 3 (xO (dLst aNil)))
    (sSeq (sFor (iAny (dVar 1)) (gN 4)
    (sExt 3 (xO (dLc (iRg1 (dC (.int 10))) (gN 5) dYes (dBin pyAdd (dVar 4) (dTup (aCons (dVar 5) aNil))) [5]))))
    (sFreeze 3 (sAsg 1 (xV (dVar 3)))))))
    (sSeq (sAsg 6 (xV (dBin pyIx (dCall F_best_for (aCons (dVar 0) (aCons (dCall F_everyone (aCons (dVar 0) aNil)) aNil))) (dC (.int 1)))))
    (sRet (dShare (dLc (iAny (dVar 1)) (gN 4) (dTest (dCall F_parts (aCons (dVar 0) (aCons (dVar 6) (aCons (dVar 4) aNil))))) (dVar 4) [4]))))))
def F_price_list : DF := fnD 7 D_price_list

def D_all_prices : DS := (sSeq (sDrop (dCall F_check_room (aCons (dVar 0) aNil)))
    (sRet (dCall F_price_list (aCons (dVar 0) aNil))))
def F_all_prices : DF := fnD 1 D_all_prices

def D_least_prices : DS := (sSeq (sDrop (dCall F_check_room (aCons (dVar 0) aNil)))
    (sSeq (sAsg 1 (xV (dCall F_price_list (aCons (dVar 0) aNil))))
    (sSeq (sIf (dTest (dBin pyEq (dVar 1) (dShare (dLst aNil)))) (sRaise e_NoPrices) sNext)
    (sSeq (sAsg 2 (xV (dCB pyTuple (aCons (dShare (dLc (iRg1 (dCall F_count_things (aCons (dVar 0) aNil))) (gN 3) dYes (dCB pyMin (aCons (dShare (dLc (iAny (dVar 1)) (gN 4) dYes (dBin pyIx (dVar 4) (dVar 3)) [4])) aNil)) [3])) aNil))))
    (sRet (dIf (dTest (dBin pyIn (dVar 2) (dVar 1))) (dVar 2) (dC .none)))))))
def F_least_prices : DF := fnD 5 D_least_prices

def D__law_least : DS := (sTry (sRet (dCall F_least_prices (aCons (dVar 0) aNil))))
def F__law_least : DF := fnD 2 D__law_least

def D__law_prices : DS := (sTry (sRet (dIf (dTest (dBin pyEq (dVar 0) (dC (.int 0)))) (dCall F_do_part (aCons (dVar 1) (aCons (dVar 2) aNil))) (dCall F_least_prices (aCons (dVar 1) aNil)))))
def F__law_prices : DF := fnD 4 D__law_prices

def D__law_cost : DS := (sRet (dCB pySum (aCons (dShare (dLc (iAny (dCall F__law_inside (aCons (dVar 1) aNil))) (gN 2) dYes (dBin pyIx (dVar 0) (dVar 2)) [2])) aNil)))
def F__law_cost : DF := fnD 3 D__law_cost

def D__law_fits : DS := (sSeq (sAsg 3 (xV (dBin pySub (dBin pySub (dCB pyLen (aCons (dBin pyIx (dVar 0) (dC (.int 0))) aNil)) (dC (.int 1))) (dCB pySum (aCons (dVar 1) aNil)))))
    (sSeq (sIf (dTest (dBin pyNe (dCall F__law_cost (aCons (dVar 2) (aCons (dVar 3) aNil))) (dC (.int 0)))) (sRet (dC (.bool false))) sNext)
    (sSeq (sFor (iZ2 (dVar 0) (dVar 1)) (g2 4 5)
    (sSeq (sAsg 6 (xV (dBin pySub (dBin pyIx (dVar 4) (dVar 5)) (dCall F__law_cost (aCons (dVar 2) (aCons (dVar 5) aNil))))))
    (sIf (dTest (dBin pyNe (dShare (dLc (iRg1 (dCB pyLen (aCons (dVar 4) aNil))) (gN 7) (dTest (dBin pyGt (dBin pySub (dBin pyIx (dVar 4) (dVar 7)) (dCall F__law_cost (aCons (dVar 2) (aCons (dVar 7) aNil)))) (dVar 6))) (dC (.int 1)) [7])) (dShare (dLst aNil)))) (sRet (dC (.bool false))) sNext)))
    (sRet (dC (.bool true))))))
def F__law_fits : DF := fnD 8 D__law_fits

def D_text_of : DS := (sRet (dSm pyJoin (dC (.str " ")) (dShare (dLc (iAny (dVar 0)) (gN 1) dYes (dSm pyJoin (dC (.str "")) (dShare (dLc (iAny (dVar 1)) (gN 2) dYes (dUn pyStr (dVar 2)) [2]))) [1]))))
def F_text_of : DF := fnD 3 D_text_of

def D_format_room : DS := (sSeq (sDrop (dCall F_check_room (aCons (dVar 0) aNil)))
    (sRet (dCall F_text_of (aCons (dVar 0) aNil))))
def F_format_room : DF := fnD 1 D_format_room

def D_parse_room : DS := (sSeq (sIf (dOr (dNot (dTest (dIsi "str" (dVar 0)))) (dNot (dTest (dCB pyAll (aCons (dShare (dLc (iAny (dVar 0)) (gN 1) dYes (dBin pyIn (dVar 1) (dBin pyAdd (dC k_DIGITS) (dC (.str " ")))) [1])) aNil))))) (sRaise e_ParseError) sNext)
    (sSeq (sAsg 2 (xV (dCB pyTuple (aCons (dShare (dLc (iAny (dSm pySplit (dVar 0) (dC (.str " ")))) (gN 3) dYes (dCB pyTuple (aCons (dShare (dLc (iAny (dVar 3)) (gN 1) dYes (dUn pyIntS (dVar 1)) [1])) aNil)) [3])) aNil))))
    (sSeq (sIf (dNot (dTest (dCall F_is_room (aCons (dVar 2) aNil)))) (sRaise e_ParseError) sNext)
    (sRet (dVar 2)))))
def F_parse_room : DF := fnD 4 D_parse_room

def D__law_read : DS := (sTry (sRet (dCall F_parse_room (aCons (dVar 0) aNil))))
def F__law_read : DF := fnD 2 D__law_read

def D_Hall___init__ : DS := (sSeq (sDrop (dCall F_check_things (aCons (dVar 1) aNil)))
    (sSeq (sFldSet "things" (dVar 0) (dVar 1))
    (sSeq (sFldSet "room" (dVar 0) (dTup aNil))
    (sFldSet "kept" (dVar 0) (dC (.int 0))))))
def F_Hall___init__ : DF := fnD 2 D_Hall___init__

def D_Hall_best : DS := (sRet (dIf (dTest (dBin pyNe (dFld "room" (dVar 0)) (dTup aNil))) (dBin pyIx (dCall F_best_for (aCons (dFld "room" (dVar 0)) (aCons (dCall F_everyone (aCons (dFld "room" (dVar 0)) aNil)) aNil))) (dC (.int 0))) (dC (.int 0))))
def F_Hall_best : DF := fnD 1 D_Hall_best

def D_Hall_enter : DS := (sSeq (sIf (dNot (dTest (dCall F_bids_for (aCons (dVar 1) (aCons (dBin pyIx (dC k_SIZES) (dBin pySub (dFld "things" (dVar 0)) (dC (.int 1)))) aNil))))) (sRaise e_InvalidBid) sNext)
    (sSeq (sIf (dTest (dBin pyEq (dCB pyLen (aCons (dFld "room" (dVar 0)) aNil)) (dC k_MOST))) (sRaise e_TooMany) sNext)
    (sSeq (sFldSet "room" (dVar 0) (dBin pyAdd (dFld "room" (dVar 0)) (dTup (aCons (dVar 1) aNil))))
    (sRet (dMeth F_Hall_best "best" (dVar 0) aNil)))))
def F_Hall_enter : DF := fnD 2 D_Hall_enter

def D_Hall_bids : DS := (sRet (dFld "room" (dVar 0)))
def F_Hall_bids : DF := fnD 1 D_Hall_bids

def D_Hall_payments : DS := (sRet (dIf (dTest (dBin pyNe (dFld "room" (dVar 0)) (dTup aNil))) (dBin pyIx (dCall F_outcome (aCons (dFld "room" (dVar 0)) aNil)) (dC (.int 1))) (dShare (dLst aNil))))
def F_Hall_payments : DF := fnD 1 D_Hall_payments

def D_Hall___eq__ : DS := (sRet (dAndV (dIsC (dVar 1)) (dAndV (dBin pyEq (dFld "things" (dVar 0)) (dFld "things" (dVar 1))) (dBin pyEq (dFld "room" (dVar 0)) (dFld "room" (dVar 1))))))
def F_Hall___eq__ : DF := fnD 2 D_Hall___eq__

def D_Hall___len__ : DS := (sRet (dCB pyLen (aCons (dFld "room" (dVar 0)) aNil)))
def F_Hall___len__ : DF := fnD 1 D_Hall___len__

def D_Hall___str__ : DS := (sSeq (sIf (dTest (dBin pyEq (dFld "room" (dVar 0)) (dTup aNil))) (sRet (dC (.str "empty"))) sNext)
    (sRet (dUn pyStr (dCall F_text_of (aCons (dFld "room" (dVar 0)) aNil)))))
def F_Hall___str__ : DF := fnD 1 D_Hall___str__

def D__law_entered : DS := (sSeq (sAsg 5 (xV (dVar 4)))
    (sSeq (sFor (iRg1 (dCall F__law_draw (aCons (dVar 0) (aCons (dVar 1) (aCons (dC (.int 4)) aNil))))) (gN 6)
    (sIf (dTest (dBin pyLt (dCB pyLen (aCons (dVar 5) aNil)) (dC (.int 4)))) (sSeq (sAsg 5 (xV (dBin pyAdd (dVar 5) (dTup (aCons (dCall F__law_some_bid (aCons (dVar 0) (aCons (dVar 1) (aCons (dVar 3) (aCons (dCall F__law_draw (aCons (dVar 0) (aCons (dVar 1) (aCons (dC (.int 4)) aNil)))) aNil))))) aNil)))))
    (sIf (dTest (dBin pyNe (dMeth F_Hall_enter "enter" (dVar 2) (aCons (dBin pyIx (dVar 5) (dUn pyNeg (dC (.int 1)))) aNil)) (dCall F__law_most_for (aCons (dVar 5) (aCons (dShare (lRange (dCB pyLen (aCons (dVar 5) aNil)))) aNil))))) (sRet (dC .none)) sNext)) sNext))
    (sRet (dVar 5))))
def F__law_entered : DF := fnD 7 D__law_entered

def D__law_join : DS := (sTry (sRet (dMeth F_Hall_enter "enter" (dVar 0) (aCons (dVar 1) aNil))))
def F__law_join : DF := fnD 3 D__law_join

def D_Hall_undo : DS := (sSeq (sIf (dTest (dBin pyEq (dCB pyLen (aCons (dFld "room" (dVar 0)) aNil)) (dFld "kept" (dVar 0)))) (sRaise e_NothingToUndo) sNext)
    (sSeq (sFldSet "room" (dVar 0) (dSl (dFld "room" (dVar 0)) oNone (oSome (dUn pyNeg (dC (.int 1))))))
    (sRet (dMeth F_Hall_best "best" (dVar 0) aNil))))
def F_Hall_undo : DF := fnD 1 D_Hall_undo

def D_Hall_duplicate : DS := (sSeq (sAsg 1 (xV (dMake F_Hall___init__ (aCons (dFld "things" (dVar 0)) aNil))))
    (sSeq (sFldSet "room" (dVar 1) (dFld "room" (dVar 0)))
    (sSeq (sFldSet "kept" (dVar 1) (dCB pyLen (aCons (dFld "room" (dVar 0)) aNil)))
    (sRet (dVar 1)))))
def F_Hall_duplicate : DF := fnD 2 D_Hall_duplicate

def D__law_back : DS := (sTry (sRet (dMeth F_Hall_undo "undo" (dVar 0) aNil)))
def F__law_back : DF := fnD 2 D__law_back

def D__law_small_ones : DS := (sSeq (sAsg 0 (xV (dTup (aCons (dTup (aCons (dC (.int 0)) (aCons (dC (.int 3)) (aCons (dC (.int 4)) (aCons (dC (.int 5)) aNil))))) (aCons (dTup (aCons (dC (.int 0)) (aCons (dC (.int 2)) (aCons (dC (.int 2)) (aCons (dC (.int 2)) aNil))))) aNil)))))
    (sSeq (sIf (dOr (dTest (dBin pyNe (dCall F_best_allotment (aCons (dVar 0) aNil)) (dTup (aCons (dC (.int 2)) (aCons (dC (.int 1)) aNil))))) (dTest (dBin pyNe (dCall F_best_total (aCons (dVar 0) (aCons (dTup (aCons (dC (.int 0)) (aCons (dC (.int 1)) aNil))) aNil))) (dC (.int 6))))) (sRet (dC (.bool false))) sNext)
    (sSeq (sIf (dOr (dTest (dBin pyNe (dCall F_total (aCons (dVar 0) (aCons (dTup (aCons (dC (.int 3)) (aCons (dC (.int 0)) aNil))) aNil))) (dC (.int 5)))) (dTest (dBin (pyIs true) (dCall F_total (aCons (dVar 0) (aCons (dTup (aCons (dC (.int 3)) (aCons (dC (.int 1)) aNil))) aNil))) (dC .none)))) (sRet (dC (.bool false))) sNext)
    (sSeq (sIf (dOr (dTest (dBin pyNe (dCall F_payments (aCons (dVar 0) aNil)) (dShare (dLst (aCons (dC (.int 0)) (aCons (dC (.int 1)) aNil)))))) (dOr (dTest (dBin pyNe (dCall F_kept (aCons (dVar 0) aNil)) (dShare (dLst (aCons (dC (.int 4)) (aCons (dC (.int 1)) aNil)))))) (dTest (dBin pyNe (dCall F_kept_by (aCons (dTup (aCons (dTup (aCons (dC (.int 0)) (aCons (dC (.int 3)) aNil))) (aCons (dTup (aCons (dC (.int 0)) (aCons (dC (.int 5)) aNil))) aNil))) (aCons (dC (.int 0)) (aCons (dTup (aCons (dC (.int 0)) (aCons (dC (.int 9)) aNil))) aNil)))) (dBin pySub (dC (.int 0)) (dC (.int 2))))))) (sRet (dC (.bool false))) sNext)
    (sSeq (sAsg 1 (xV (dTup (aCons (dTup (aCons (dC (.int 0)) (aCons (dC (.int 3)) aNil))) (aCons (dTup (aCons (dC (.int 0)) (aCons (dC (.int 5)) aNil))) aNil)))))
    (sSeq (sIf (dOr (dTest (dBin pyNe (dCall F_all_prices (aCons (dVar 1) aNil)) (dShare (dLst (aCons (dTup (aCons (dC (.int 3)) aNil)) (aCons (dTup (aCons (dC (.int 4)) aNil)) (aCons (dTup (aCons (dC (.int 5)) aNil)) aNil))))))) (dOr (dTest (dBin pyNe (dCall F_least_prices (aCons (dVar 1) aNil)) (dTup (aCons (dC (.int 3)) aNil)))) (dTest (dBin (pyIs true) (dCall F_do_part (aCons (dVar 1) (aCons (dTup (aCons (dC (.int 4)) aNil)) aNil))) (dC (.bool true)))))) (sRet (dC (.bool false))) sNext)
    (sSeq (sIf (dOr (dTest (dBin (pyIs true) (dCall F_objects (aCons (dVar 1) (aCons (dTup (aCons (dC (.int 0)) aNil)) aNil))) (dC (.bool false)))) (dOr (dTest (dBin (pyIs true) (dCall F_is_calm (aCons (dVar 1) aNil)) (dC (.bool true)))) (dTest (dBin pyNe (dCall F_payments (aCons (dVar 1) aNil)) (dShare (dLst (aCons (dC (.int 0)) (aCons (dC (.int 3)) aNil)))))))) (sRet (dC (.bool false))) sNext)
    (sRet (dAndV (dBin pyEq (dCall F_sum_bid (aCons (dTup (aCons (dC (.int 2)) (aCons (dC (.int 3)) aNil))) aNil)) (dTup (aCons (dC (.int 0)) (aCons (dC (.int 2)) (aCons (dC (.int 3)) (aCons (dC (.int 5)) aNil)))))) (dBin pyEq (dCall F_single_bid (aCons (dTup (aCons (dC (.int 2)) (aCons (dC (.int 3)) aNil))) aNil)) (dTup (aCons (dC (.int 0)) (aCons (dC (.int 2)) (aCons (dC (.int 3)) (aCons (dC (.int 3)) aNil)))))))))))))))
def F__law_small_ones : DF := fnD 2 D__law_small_ones

def D__law_told : DS := (sSeq (sAsg 1 (xV (dBin pyAdd (dBin pyMul (dTup (aCons (dC (.int 2)) aNil)) (dIdx (dShare (dLst (aCons (dC (.int 2)) (aCons (dC (.int 4)) (aCons (dC (.int 8)) aNil))))) (dCB pyLen (aCons (dBin pyIx (dVar 0) (dC (.int 0))) aNil)))) (dTup (aCons (dC (.int 1)) aNil)))))
    (sRet (dShare (dLst (aCons (dCall F_payments (aCons (dVar 0) aNil)) (aCons (dCall F_kept (aCons (dVar 0) aNil)) (aCons (dCall F_objecting (aCons (dVar 0) aNil)) (aCons (dShare (dLst (aCons (dCall F_best_allotment (aCons (dVar 0) aNil)) (aCons (dCall F_do_part (aCons (dVar 0) (aCons (dVar 1) aNil))) aNil)))) aNil))))))))
def F__law_told : DF := fnD 2 D__law_told

def D__law_two : DS := (sTry (sSeq (sIf (dTest (dBin pyLt (dVar 0) (dC (.int 4)))) (sRet (dPick [F_best_total, F_total, F_objects, F_do_part] (dVar 0) (aCons (dVar 1) (aCons (dC .none) aNil)))) sNext)
    (sRet (dCall F_kept_by (aCons (dVar 1) (aCons (dC .none) (aCons (dC .none) aNil)))))))
def F__law_two : DF := fnD 3 D__law_two

def D__law_package : DS := (sTry (sRet (dCall F_package_bid (aCons (dVar 0) (aCons (dVar 1) (aCons (dVar 2) aNil))))))
def F__law_package : DF := fnD 4 D__law_package

def D__law_kept : DS := (sTry (sRet (dCall F_kept_by (aCons (dVar 0) (aCons (dVar 1) (aCons (dVar 2) aNil))))))
def F__law_kept : DF := fnD 4 D__law_kept

end OL

set_option maxHeartbeats 4000000
/-! DLEnd: the law's own def, the head's facts. -/
namespace DL
open PySem PySem.Spec PyProof.Rows L2
/-- the law's promise: it ends well -/
def spL (K : Frag) (g : G) (F : DF) : Sp := fun vs H Q _ => ∃ ds μ w d μ', w.H = H ∧ vs.length = 1 ∧ Sim K g w μ ∧ RpA K w.as w.F vs ds ∧ F ds μ = .ok d μ' ∧ ∀ (w' : Wd) v, Rp K w'.as w'.F v d → Q v w'.H
theorem law_made {P : Program} {w : World} {K : Frag} {mg : Str → Option Value} {base : Heap} {g : G} {x qual : Str} {params : Arguments} {body : List Stmt} {scope : Scope} {f : Addr} {fd : FuncData} (N : List Str) (p : Str) (k : Nat) (fb : DS) {Fd : DF}
    (F : FunD K x qual params body scope [] [] f fd) (S : FnScope N [p] scope) (hF : Fd = fnD N.length fb)
    (hbody : ∀ (cdv : Value) (A : Around) (outer : List Env) (s : Shared) (H : Hp) (E : XK), Room k (A.deeper (envOfC qual scope s.heap.objs.size f cdv)) →
      ∃ t, PBD (cxOf CX0 P w K mg base N qual scope f cdv A outer s H E) g W0 body t fb) : FnOk P w K mg base CX0 (k + 1) f fd [p] (spL K g Fd) := by
  subst hF
  refine F.ok S (fun vs H Q E h => ?_) (fun cdv A outer s H vs Q E hr h => ?_)
  · obtain ⟨ds, μ, w, _, _, _, hl, _⟩ := h
    exact hl
  · obtain ⟨t, hb⟩ := hbody cdv A outer s H E hr
    refine ⟨t, hb.pss, ?_⟩
    obtain ⟨ds, μ, w1, d, μ', rfl, hl, S1, ra, e, q⟩ := h
    refine hb.ev w1 _ μ w1 _ (.refl w1) (start_sim ra) S1 _ ?_
    unfold fnD at e
    cases e2 : fb (ds.map (fun d => some (.v d)) ++ List.replicate (N.length - ds.length) none) μ with
    | ok fl μ2 =>
      rw [e2] at e
      cases fl with
      | next sd' =>
        cases e
        exact fun w' σ' l' _ _ S' => q w' _ .non
      | ret d =>
        cases e
        exact fun w' v l' _ S' r => q w' v r
    | exc c μ2 => rw [e2] at e; cases e
    | bad => rw [e2] at e; cases e
theorem ints_rp {K : Frag} {as : List Addr} {F : Hp} : ∀ ns : List Int, RpA K as F (ns.map V.int) (ns.map PyData.int)
  | [] => .nil
  | i :: r => .cons (.int i) (ints_rp r)
/-- at the script the promise holds -/
theorem law_starts {K : Frag} {g : G} {F : DF} {H : Hp} {a : Addr} {ns : List Int} {E : XK} (hS : SqL K H a (ns.map V.int)) (h : ∃ μ', F [scr (ns.map .int)] [] = .ok (.bool true) μ') : spL K g F [.ref a] H (fun v _ => v = .bl true) E := by
  obtain ⟨μ', e⟩ := h
  refine ⟨[scr (ns.map .int)], [], ⟨[], H, H⟩, .bool true, μ', rfl, rfl, ⟨.refl _, fun j k b hj => by simp at hj, rfl, fun k c e => by simp at e⟩, .cons (.scr hS (ints_rp ns)) .nil, e, fun w' v r => ?_⟩
  cases r
  rfl
/-! ### facts of the head -/
section
variable {K : Frag} {h : Heap} {mg : Str → Option Value}
theorem exd_of {g : G} {x : Str} {c : Nat} (X : K.In h) (G1 : h.Ns mainGlobals mg) (hg : g.ex c = .ref (He.ga K x)) (c1 : (He.Fa.glo x).ok K = true) (c2 : (He.Fa.exc x).ok K = true) : ExD K mg g x c := by
  obtain ⟨h1, h2, h3, h4⟩ := He.exc_ok c2
  exact ⟨He.ga K x, hg, h1, He.glo_ok X G1 c1, h2, h3, h4⟩
theorem gc_int {x : Str} {i : Int} (X : K.In h) (G1 : h.Ns mainGlobals mg) (c : (He.Fa.int x i).ok K = true) : Gc K mg x (.int i) (.int i) := by
  obtain ⟨t, e⟩ := He.int_ok X G1 c
  exact ⟨⟨_, e, ⟨t, rfl⟩⟩, fun _ _ => .int i⟩
theorem gc_str {x z : Str} (X : K.In h) (G1 : h.Ns mainGlobals mg) (c : (He.Fa.str x z).ok K = true) : Gc K mg x (.str z) (.str z) := by
  obtain ⟨t, e⟩ := He.str_ok X G1 c
  exact ⟨⟨_, e, ⟨t, rfl⟩⟩, fun _ _ => .str z⟩
theorem gc_tup {x : Str} {is : List Int} (X : K.In h) (G1 : h.Ns mainGlobals mg) (c1 : (He.Fa.glo x).ok K = true) (c : He.tupB K x (is.map He.Dv.int) = true) : Gc K mg x (.ref (He.ga K x)) (.tuple (is.map .int)) := by
  refine ⟨⟨_, He.glo_ok X G1 c1, rfl⟩, fun as F => ?_⟩
  have z := He.tupB_ok c F
  rw [List.map_map] at z
  exact .tup z (ints_rp is)
end
end DL

set_option maxHeartbeats 4000000
/-! DLSetI: a new list times a number, an item of a list of the def's own written. -/
namespace DL
open PySem PySem.Spec PyProof.Rows L2
section
variable {X : Cx} {g : G} {W : WX} {a b c e o ix : Expr} {ta tb tc te ti : TE} {fa fb fc fe fi : DE} {pos : Pos} {rest : List Stmt}
/-- [..] * k, a new list of the def's own -/
def lRep (fa fb : DE) : DA := fun sd μ => (fa sd μ).bind fun x μ1 => (fb sd μ1).bind fun y μ2 => match x, y with
  | .list xs, .int k => if 0 ≤ k ∧ k ≤ 1000 ∧ xs.length * k.toNat ≤ 100000 then .ok (List.replicate k.toNat xs).flatten μ2 else .bad
  | _, _ => .bad
theorem l_rep (ha : PED X g W a ta fa) (hb : PED X g W b tb fb) : PLD X g W (.BinOp a .Mult b pos) (tOp rRep ta tb) (lRep fa fb) := ⟨pe_op op_rep ha.pe hb.pe, fun H0 sd μ w σ SS S => by
  refine Out.bind (T1 := fun x H Q => tb σ H fun y H2 => rRep x y H2 Q) (ha.ev H0 sd μ w σ SS S) fun x μ1 w1 xv l1 S1 rx => ?_
  refine (Out.bind (Rel' := RelL X.K w) (T1 := fun y H2 Q => rRep xv y H2 Q) (hb.ev H0 sd μ1 w1 σ (SS.le l1) S1) fun y μ2 w2 yv l2 S2 ry => ?_)
  split
  · rename_i xs k
    split
    · rename_i hk
      obtain ⟨p, vs, rfl, hp, ra⟩ := (rx.le l2).lstV
      rw [ry.intV]
      have z := Out.newO (g := g) (W := W) (σ := σ) (T := fun Q => rRep (.ref p) (.int k) w2.H Q) S2 (ra.rep k.toNat) fun Q q => ⟨p, k, vs, rfl, rfl, S2.sub _ _ hp, by omega, by omega, by rw [ra.length]; exact sizeL hk.2.2, q⟩
      exact Out.imp z fun w' x a l r => RelL.back (l1.trans l2) r
    · trivial
  · trivial⟩
/-- x[i] = v -/
def sSetI (i : Nat) (fi fe : DE) : DS := fun sd μ => match sd[i]? with
  | some (some (.own xs)) => (fe sd μ).bind fun d μ1 => (fi sd μ1).bind fun k μ2 => match k with
    | .int k => match ixN xs.length k with
      | some j => .ok (.next (sd.set i (some (.own (xs.set j d))))) μ2
      | none => .bad
    | _ => .bad
  | _ => .bad
theorem s_setI {i : Nat} (ho : PED X g W o (tVar i) (dVar i)) (hi : PED X g W ix ti fi) (he : PED X g W e te fe)
    (ha : ∀ v, assign (.Subscript o ix pos) X.env v = (do
      let ov ← holding [v] (eval o X.env)
      let iv ← holding [v, ov] (eval ix X.env)
      standAt pos
      holding [v, ov, iv] (setItem ov iv v)
      release [v, ov, iv] []) := by intro _; rfl) {p2 : Pos}
    (hs : swapsWithSole [.Subscript o ix pos] e p2.line X.env = pure false := by rfl) (hw : swappedStores [.Subscript o ix pos] e X.env = pure none := by rfl) (h1 : (assignEach [.Subscript o ix pos] X.env).map (·.2) = [assign (.Subscript o ix pos) X.env] := by rfl) :
    PSD X g W (.Assign [.Subscript o ix pos] e p2) (tAsg te (gSub (tVar i) ti rSetL)) (sSetI i fi fe) := by
  refine ⟨ps_asg he.pe (pg_sub ho.pe hi.pe set_list ha) hs hw h1, fun w0 sd μ w σ l SS S E q => ?_⟩
  unfold sSetI at q
  split at q
  · rename_i xs e1
    refine Out.wants (he.ev w0.H sd μ w σ SS S) l q fun d μ1 w1 y l1 S1 ry q1 => ?_
    obtain ⟨p, vs0, hx, _, _, _⟩ := own_write (l.trans l1) (SS.le l1) S1 e1
    refine ⟨.ref p, hx, ?_⟩
    refine Out.wants (hi.ev w0.H sd μ1 w1 σ (SS.le l1) S1) (l.trans l1) q1 fun k μ2 w2 kv l2 S2 rk q2 => ?_
    obtain ⟨p', vs, hx', hH, ra, kk⟩ := own_write ((l.trans l1).trans l2) ((SS.le l1).le l2) S2 e1
    rw [hx] at hx'
    cases hx'
    split at q2
    · rename_i k
      split at q2
      · rename_i j ej
        rw [rk.intV]
        obtain ⟨k1, k2, k3, k4⟩ := kk (vs.set j y) (xs.set j d) (RpA.set (ry.le l2) j ra)
        exact ⟨p, vs, k, j, rfl, rfl, hH, by rw [ra.length]; exact ej, q2 _ σ k1 k2 k3 k4⟩
      · exact q2.elim
    · exact q2.elim
  · exact q.elim
end
end DL

set_option maxHeartbeats 4000000
/-! DLRepl: text.replace(old, new) of written texts, in a list behind a written text. -/
namespace DL
open PySem PySem.Spec PyProof.Rows L2 CwR
structure PETD (X : Cx) (g : G) (W : WX) (e : Expr) (te : TE) (f : DE) : Prop where
  pet : PET X e te
  ev : EvD X.K g W te f
structure PATD (X : Cx) (g : G) (W : WX) (es : List Expr) (ta : TA) (f : DA) : Prop where
  pat : PAT X es ta
  ev : EvA X.K g W ta f
section
variable {X : Cx} {g : G} {W : WX} {e o : Expr} {es : List Expr} {te : TE} {ta : TA} {to : TE} {fe fo : DE} {fa : DA} {pos : Pos}
theorem et_of (h : PED X g W e te fe) : PETD X g W e te fe := ⟨fun pins s σ H Q _ I q => h.pe.run pins s σ H Q I q, h.ev⟩
theorem at_nil : PATD X g W [] tNil aNil := ⟨pat_nil, a_nil (X := X).ev⟩
theorem at_cons (h1 : PETD X g W e te fe) (h2 : PATD X g W es ta fa) (hs : starEach (e :: es) X.env = (false, eval e X.env) :: starEach es X.env := by rfl) : PATD X g W (e :: es) (tCons te ta) (aCons fe fa) := ⟨pat_cons h1.pet h2.pat hs, ev_cons h1.ev h2.ev⟩
theorem a_strT {x : Str} {j : Nat} (h2 : PATD X g W es ta fa) (hs : starEach (.Constant (.str x) j pos :: es) X.env = (false, eval (.Constant (.str x) j pos) X.env) :: starEach es X.env := by rfl) : PAD X g W (.Constant (.str x) j pos :: es) (tCons (tC (.str x)) ta) (aCons (dC (.str x)) fa) := ⟨⟨fun p pins s σ H Q I h => by
  rw [hs]
  show wpAny _ _ (spliced ((false, eval (.Constant (.str x) j pos) X.env) :: backTo p (starEach es X.env))) _ _ s
  refine Calls.spliced_cons (Calls.Constant_str ?_)
  have z := h2.pat p pins { s with toks := s.toks + 1 } σ H _ (by show 1 ≤ s.toks + 1; omega) (I.tok _) h
  exact thn z fun us s2 ⟨xs, H2, I2, r2, q2⟩ => ⟨.str x :: xs, H2, I2, .cons ⟨s.toks, rfl⟩ r2, q2⟩⟩, ev_cons (d_str (X := X) (g := g) (W := W) (i := x) (j := j) (pos := pos)).ev h2.ev⟩
def pyRepl (y z : Str) : D → Option D
  | .str x => if x.length + (x.length + 1) * z.length ≤ 16777216 then some (.str (Txt.replace x y z)) else none
  | _ => none
theorem et_repl {y z : Str} {j k : Nat} {c0 c1 apos : Pos} (ho : PED X g W o to fo) (hyz : (y == z) = false := by decide)
    (hst : starEach [.Constant (.str y) j c0, .Constant (.str z) k c1] X.env = [(false, eval (.Constant (.str y) j c0) X.env), (false, eval (.Constant (.str z) k c1) X.env)] := by rfl)
    (hbase : attributeBase o "replace" X.env (eval o X.env) = eval o X.env := by rfl) (hline : (apos.endLine == pos.line) = true := by rfl) :
    PETD X g W (.Call (.Attribute o "replace" apos) [.Constant (.str y) j c0, .Constant (.str z) k c1] [] pos) (tReplC to y z) (dUn (pyRepl y z) fo) := ⟨pet_replC ho.pe hyz hst hbase hline, fun H0 sd μ w σ SS S => by
  refine Out.bind (T1 := fun v H1 Q => ∃ x, v = .str x ∧ x.length + (x.length + 1) * z.length ≤ 16777216 ∧ Q (V.str (Txt.replace x y z)) H1) (ho.ev H0 sd μ w σ SS S) fun d μ1 w1 v l1 S1 r => Out.lift fun u hu => ?_
  unfold pyRepl at hu
  split at hu
  · split at hu
    · rename_i h
      cases hu
      rw [r.strV]
      exact Out.ok S1 (.str _) fun Q q => ⟨_, rfl, h, q⟩
    · cases hu
  · cases hu⟩
end
end DL

set_option maxHeartbeats 4000000
/-! DLRem: x.remove(k), x a list of numbers that the store keeps. -/
namespace DL
open PySem PySem.Spec PyProof.Rows L2
section
variable {X : Cx} {g : G} {W : WX} {a b c e o : Expr} {ta tb tc te : TE} {fa fb fc fe : DE} {pos : Pos}
theorem RpA.ofInts {K : Frag} {as : List Addr} {F : Hp} : ∀ ns : List Int, RpA K as F (ns.map V.int) (ns.map PyData.int)
  | [] => .nil
  | n :: ns => .cons (.int n) (RpA.ofInts ns)
/-- x.remove(e), x a list of numbers that the store keeps -/
def sRemT (i : Nat) (fe : DE) : DS := fun sd μ => match sd[i]? with
  | some (some (.v (.dict [(.none, .int k)]))) => match μ[k.toNat]? with
    | some (.lst _) => (fe sd μ).bind fun d μ1 => match μ1[k.toNat]? with
      | some (.lst xs) => match asInts xs, d with
        | some ns, .int z => if z ∈ ns then .ok (.next sd) (μ1.set k.toNat (.lst ((ns.eraseIdx (ns.idxOf z)).map .int))) else .bad
        | _, _ => .bad
      | _ => .bad
    | _ => .bad
  | _ => .bad
theorem s_remT {i : Nat} {o : Expr} {apos cpos : Pos} (ho : PED X g W o (tVar i) (dVar i)) (he : PED X g W e te fe)
    (bm : PE X o (tVar i) → PA X [e] (tCons te tNil) → PE X (.Call (.Attribute o "remove" apos) [e] [] cpos) (tBM X.K "list" rRemI (tVar i) (tCons te tNil)) := by exact fun ho ha => pe_bm PySem.F.plainAttrs_list PySem.F.slot_list_remove PySem.F.type_list_remove mt_remove ho ha)
    (hst : starEach [e] X.env = (false, eval e X.env) :: starEach [] X.env := by rfl) (hs : swapsWith (.Call (.Attribute o "remove" apos) [e] [] cpos) none pos.line X.env = pure false := by rfl) :
    PSD X g W (.Expr (.Call (.Attribute o "remove" apos) [e] [] cpos) pos) (tDrop (tBM X.K "list" rRemI (tVar i) (tCons te tNil))) (sRemT i fe) := by
  refine ⟨ps_expr (bm ho.pe (pa_cons he.pe pa_nil hst)) hs, fun w0 sd μ w σ l SS S E q => ?_⟩
  unfold sRemT at q
  split at q
  · rename_i k e1
    obtain ⟨x, hx, rx⟩ := SS.at_ i _ e1
    obtain ⟨a, rfl, ea⟩ := Rp.tokI rx
    split at q
    · rename_i xs0 e0
      obtain ⟨a0, ea0, _, ⟨vs0, hH0, _⟩⟩ := S.cell _ _ e0
      rw [ea] at ea0
      cases ea0
      refine ⟨.ref a, hx, isL hH0, tOne (Out.wants (he.ev w0.H sd μ w σ SS S) l q fun d μ1 w1 y l1 S1 ry q1 => ?_)⟩
      split at q1
      · rename_i xs e2
        obtain ⟨a', ea', hF, ⟨vs, hH, ra⟩, kk⟩ := cell_write S1 e2
        rw [l1.pre _ _ ea] at ea'
        cases ea'
        split at q1
        · rename_i ns z en
          by_cases hz : z ∈ ns
          · rw [if_pos hz] at q1
            rw [asInts_map en] at ra
            have ev : vs = ns.map V.int := ra.ints
            rw [ry.intV]
            obtain ⟨k1, k2⟩ := kk (.lst ((ns.eraseIdx (ns.idxOf z)).map V.int)) (.lst ((ns.eraseIdx (ns.idxOf z)).map .int)) ⟨_, upd_same, RpA.ofInts _⟩
            have hj : ns[ns.idxOf z]? = some z := by
              have hl := List.idxOf_lt_length_iff.mpr hz
              rw [List.getElem?_eq_getElem hl, List.getElem_idxOf hl]
            refine ⟨a, ns, z, ns.idxOf z, rfl, rfl, by rw [← ev]; exact hH, hj, fun m hm c => ?_, q1 _ σ ((l.trans l1).trans k1) k1.wk ((SS.le l1).le k1) k2⟩
            obtain ⟨h1, h2⟩ := List.getElem?_eq_some_iff.mp c
            have nb := List.not_of_lt_findIdx (p := fun y => y == z) (xs := ns) (i := m) hm
            rw [h2] at nb
            simp at nb
          · rw [if_neg hz] at q1
            exact q1.elim
        · exact q1.elim
      · exact q1.elim
    · exact q.elim
  · exact q.elim
/-! ### a list that the store keeps is read -/
/-- two things and the store -/
def R2M (K : Frag) (g : G) (W : WX) (r : R2) (f : Mu → D → D → Option D) : Prop := ∀ μ w σ x y d e z, Sim K g w μ → Rp K w.as w.F x d → Rp K w.as w.F y e → f μ d e = some z → Out K g W σ w (RelD K) (.ok z μ) fun Q => r x y w.H Q
def dBinM (f : Mu → D → D → Option D) (fa fb : DE) : DE := fun sd μ => (fa sd μ).bind fun x μ1 => (fb sd μ1).bind fun y μ2 => lift (f μ2 x y) μ2
theorem ev_binM {K : Frag} {r : R2} {f : Mu → D → D → Option D} (hr : R2M K g W r f) (ha : EvD K g W ta fa) (hb : EvD K g W tb fb) : EvD K g W (tOp r ta tb) (dBinM f fa fb) := fun H0 sd μ w σ SS S => by
  refine Out.bind (T1 := fun x H Q => tb σ H fun y H2 => r x y H2 Q) (ha H0 sd μ w σ SS S) fun x μ1 w1 xv l1 S1 rx => ?_
  refine Out.bind (T1 := fun y H2 Q => r xv y H2 Q) (hb H0 sd μ1 w1 σ (SS.le l1) S1) fun y μ2 w2 yv l2 S2 ry => ?_
  exact Out.lift fun z hz => hr μ2 w2 σ xv yv x y z S2 (rx.le l2) ry hz
/-- x[i] -/
def pyIxM (μ : Mu) : D → D → Option D
  | .dict [(.none, .int k)], .int i => match μ[k.toNat]? with
    | some (.lst xs) => atI xs i
    | _ => none
  | _, _ => none
theorem rd_ixM {K : Frag} : R2M K g W (rIx K) pyIxM := fun μ w σ x y d e z S rx ry hz => by
  unfold pyIxM at hz
  split at hz
  · rename_i k i
    obtain ⟨a, rfl, ea⟩ := Rp.tokI rx
    rw [ry.intV]
    split at hz
    · rename_i xs e0
      obtain ⟨a0, ea0, _, ⟨vs, hH, ra⟩⟩ := S.cell _ _ e0
      rw [ea] at ea0
      cases ea0
      obtain ⟨v, hv, rv⟩ := ra.at_ hz
      exact Out.ok S rv fun Q q => .inl ⟨a, vs, _, v, rfl, rfl, sqL_of hH, hv, q⟩
    · cases hz
  · cases hz
theorem d_ixM (ha : PED X g W a ta fa) (hb : PED X g W b tb fb) (hs : PlainIx b := by intro _ _; rfl) : PED X g W (.Subscript a b pos) (tOp (rIx X.K) ta tb) (dBinM pyIxM fa fb) := ⟨pe_ix ix_seq ha.pe hb.pe hs, ev_binM rd_ixM ha.ev hb.ev⟩
/-- x != y -/
def pyNeM (μ : Mu) : D → D → Option D
  | .dict [(.none, .int k)], .list ys => match μ[k.toNat]? with
    | some (.lst xs) => if SeqAt.shaped (.list xs) = true ∧ SeqAt.shaped (.list ys) = true then some (.bool (!PyData.eqv (.list xs) (.list ys))) else none
    | _ => none
  | _, _ => none
theorem rd_neM {K : Frag} : R2M K g W (rNeD K) pyNeM := fun μ w σ x y d e z S rx ry hz => by
  unfold pyNeM at hz
  split at hz
  · rename_i k ys
    obtain ⟨a, rfl, ea⟩ := Rp.tokI rx
    split at hz
    · rename_i xs e0
      obtain ⟨a0, ea0, _, ⟨vs, hH, ra⟩⟩ := S.cell _ _ e0
      rw [ea] at ea0
      cases ea0
      split at hz
      · rename_i h
        cases hz
        have p1 : plainA xs = true := by simpa [plain] using plain_shaped h.1
        exact Out.ok S (.bl _) fun Q q => ⟨_, _, .lst (sqL_of hH) (RpA.dp S.sub p1 ra), Rp.dp S.sub (plain_shaped h.2) ry, h.1, h.2, q⟩
      · cases hz
    · cases hz
  · cases hz
theorem t_neM (hu : X.A.units + 100 < cLine) (ha : PED X g W a ta fa) (hb : PED X g W b tb fb) : PTD X g W (.Compare a [.NotEq] [b] pos) (tTest (tOp (rNeD X.K) ta tb)) (dTest (dBinM pyNeM fa fb)) :=
  ⟨pt_cmpR (op_neD (by omega)) ha.pe hb.pe (nomark _), ev_test (ev_binM rd_neM ha.ev hb.ev)⟩
end
end DL

set_option maxHeartbeats 4000000
/-! DLRevT: t[::-1] of a tuple. -/
namespace DL
open PySem PySem.Spec PyProof.Rows L2 HT
section
variable {prog : Program} {w : World} {A : Around} {E : Value → Shared → Prop} {s : Shared}
theorem adjust_rev (n : Nat) : Builtin.Slice.sliceAdjust none none (-1) (n : Int) = ((n : Int) - 1, -1) := by
  unfold Builtin.Slice.sliceAdjust
  simp
theorem places_rev (n : Nat) : Builtin.Slice.slicePlaces ((n : Int) - 1) (-1) (-1) = n := by
  unfold Builtin.Slice.slicePlaces
  simp
  omega
theorem sliceApplied_rev {sl : Addr} {vl vu vs : Value} {n : Nat} {Q : Int × Int × Nat → Shared → Prop} (hs : s.heap.IsSliceOf sl vl vu vs) (pl : IsPart vl none) (pu : IsPart vu none) (ps : IsPart vs (some (-1)))
    (h : Q ((n : Int) - 1, -1, n) s) : wpAny (model prog w) A (Builtin.Slice.sliceApplied (.ref sl) (pure (n : Int))) Q E s := by
  obtain ⟨os, hos, hcs, hds⟩ := id hs
  unfold Builtin.Slice.sliceApplied Builtin.Slice.sliceFields
  refine wpAny_bind (wpAny_bind (wpAny_field hos hds (x := vl) rfl (wpAny_bind (wpAny_field hos hds (x := vu) rfl (wpAny_bind (wpAny_field hos hds (x := vs) rfl (wpAny_pure ?_)))))))
  refine wpAny_bind (slicePart_ ps ?_)
  show wpAny _ _ (if ((-1 : Int) == 0) = true then _ else _) _ _ s
  rw [if_neg (by decide)]
  refine wpAny_bind (slicePart_ pl (wpAny_bind (slicePart_ pu (wpAny_bind (wpAny_pure ?_)))))
  show wpAny _ _ (match Builtin.Slice.sliceAdjust none none (-1) (n : Int) with | (lo, hi) => pure (lo, (-1 : Int), Builtin.Slice.slicePlaces lo hi (-1))) _ _ s
  rw [adjust_rev n]
  show wpAny _ _ (pure ((n : Int) - 1, (-1 : Int), Builtin.Slice.slicePlaces ((n : Int) - 1) (-1) (-1))) _ _ s
  rw [places_rev]
  exact wpAny_pure h
theorem pick_rev (xs : Array Value) : ((List.range xs.size).filterMap fun (k : Nat) => xs[((xs.size : Int) - 1 + (k : Int) * -1).toNat]?).toArray = xs.toList.reverse.toArray := by
  have e : (fun (k : Nat) => xs[((xs.size : Int) - 1 + (k : Int) * -1).toNat]?) = (fun j => xs[j]?) ∘ fun k => xs.size - 1 - k := by
    funext k
    have : ((xs.size : Int) - 1 + (k : Int) * -1).toNat = xs.size - 1 - k := by omega
    show xs[((xs.size : Int) - 1 + (k : Int) * -1).toNat]? = xs[xs.size - 1 - k]?
    rw [this]
  rw [e, ← List.filterMap_map, PySem.W.krv_range, List.filterMap_reverse, PySem.W.krv_all]
theorem getItem_tuple_rev {t sl : Addr} {items : Array Value} {vl vu vs : Value} {Q : Value → Shared → Prop} (ht : IsTup s.heap t items) (hs : s.heap.IsSliceOf sl vl vu vs) (pl : IsPart vl none) (pu : IsPart vu none) (ps : IsPart vs (some (-1)))
    (h : Q (.ref s.heap.objs.size) { s with heap := s.heap.push { cls := .type "tuple", data := .seq items.toList.reverse.toArray } })
    (hsz : items.size ≤ sizeLine) : wpAny (model prog w) A (getItem (.ref t) (.ref sl)) Q E s := by
  have htake : sizeOk (.seq items.toList.reverse.toArray) := by
    show items.toList.reverse.toArray.size ≤ sizeLine
    rw [List.size_toArray, List.length_reverse, Array.length_toList]
    exact hsz
  obtain ⟨os, hos, hcs, hds⟩ := id hs
  have hTs : s.TypeIs (.ref sl) "slice" := ⟨os, hos, hcs⟩
  unfold getItem
  try with_reducible refine wpAny_holding ?_
  first | refine wpAny_bind (wpAny_pure ?_) | skip
  refine wpAny_bind (wpAny_sequenceKey ht.typeIs (by decide) ?_)
  refine wpAny_bind (wpAny_callSpecial?_slot (name := Str.ofString "__getitem__") ht.typeIs PyProof.Rows.slot_tuple_getitem
    (wpAny_call_entry PyProof.Rows.slot_tuple_getitem ht.typeIs entry_tuple_getitem ?_ (args_tuple_getitem _ _)))
  show wpAny _ _ (Builtin.Tuple.tupleItemsOf (.ref t) >>= _) _ _ s
  refine wpAny_bind (tupleItemsOf_ ht ?_)
  refine wpAny_bind (wpAny_typeOf hTs ?_)
  rw [if_pos (by decide)]
  refine wpAny_bind (sliceApplied_rev hs pl pu ps ?_)
  have hno : ¬ ((((items.size : Int) - 1) == 0 && (-1 : Int) == 1 && items.size == items.size) = true) := by
    intro q
    rw [Bool.and_eq_true, Bool.and_eq_true] at q
    exact absurd q.1.2 (by decide)
  show wpAny _ _ (if (((items.size : Int) - 1) == 0 && (-1 : Int) == 1 && items.size == items.size) = true then _ else _) _ _ s
  rw [if_neg hno, pick_rev]
  first
    | exact wpAny_bind (m := Builtin.Tuple.tupleExact _) (wpAny_newObj_type (wpAny_pure ⟨_, rfl, wpAny_pure h⟩) htake)
    | exact wpAny_bind (m := Builtin.Tuple.tupleExact _) (wpAny_newObj_type (wpAny_bind (wpAny_pure (wpAny_pure ⟨_, rfl, wpAny_pure h⟩))) htake)
    | exact wpAny_bind (wpAny_bind (m := Builtin.Tuple.tupleExact _) (wpAny_newObj_type (wpAny_pure (wpAny_pure ⟨_, rfl, wpAny_pure h⟩)) htake))
    | exact wpAny_bind (wpAny_bind (m := Builtin.Tuple.tupleExact _) (wpAny_newObj_type (wpAny_pure ⟨_, rfl, wpAny_pure h⟩) htake))
end
/-! ### t[::-1] -/
def tRevT (K : PySem.W.Frag) (te : TE) : TE := fun σ H Q => te σ H fun x H1 => ∃ a xs, x = .ref a ∧ SqT K H1 a xs ∧ ∀ p, H1 p = none → Q (.ref p) (upd H1 p (.tup xs.reverse))
section
variable {X : Cx} {g : G} {W : WX} {a : Expr} {ta : TE} {fa : DE} {pos : Pos}
theorem pe_revT {e : Expr} {te : TE} {k : Nat} {p1 p2 p3 pos : Pos} (he : PE X e te) : PE X (.Subscript e (.Slice none none (some (.UnaryOp .USub (.Constant (.int 1) k p1) p2)) p3) pos) (tRevT X.K te) := by
  refine ⟨fun pins s σ H Q I h => ?_⟩
  refine Subscript_ (thn (he.run pins s σ H _ I h) fun v s1 ⟨x, H1, I1, r1, q1⟩ => ?_)
  obtain ⟨a, xs, ex, hx, q⟩ := q1
  subst ex
  cases r1
  have hst : PO X (some (.UnaryOp .USub (.Constant (.int 1) k p1) p2)) (tPart (tUn (rU fun i => .int (-i)) (tC (.int 1)))) := po_some (pe_un un_neg pe_int)
  refine wpAny_Slice (thn (po_none.run pins s1 σ H1 (fun o H2 => o = none ∧ H2 = H1) I1 ⟨rfl, rfl⟩) fun vl s2 ⟨l, H2, I2, pl, el, e2⟩ => ?_)
  subst el e2
  refine thn (po_none.run pins s2 σ H2 (fun o H3 => o = none ∧ H3 = H2) I2 ⟨rfl, rfl⟩) fun vu s3 ⟨u, H3, I3, pu, eu, e3⟩ => ?_
  subst eu e3
  refine thn (hst.run pins s3 σ H3 (fun o H4 => o = some (-1) ∧ H4 = H3) I3 ⟨1, rfl, -1, rfl, rfl, rfl⟩) fun vs s4 ⟨o, H4, I4, ps, eo, e4⟩ => ?_
  subst eo e4
  have I5 : Inv X pins σ H4 { s4 with heap := s4.heap.push { cls := .type "slice", data := .fields #[vl, vu, vs] } } := I4.kept (t' := s4.toks) fun b ob q => Heap.get?_push_of_some _ q
  obtain ⟨its, r, ht, hz⟩ := I5.tuple hx
  show wpAny (model X.prog X.w) X.A (subscriptTail e (.Slice none none (some (.UnaryOp .USub (.Constant (.int 1) k p1) p2)) p3) (.ref a) (.ref s4.heap.objs.size)) (EP X pins σ Q) X.xe { s4 with heap := s4.heap.push { cls := .type "slice", data := .fields #[vl, vu, vs] } }
  refine tail_any (ops := [.ref a, .ref s4.heap.objs.size]) ht.typeIs (PyProof.Rows.slot_tuple_getitem.lookup) ?_ (by with_unfolding_all rfl)
  refine getItem_tuple_rev ht (Heap.IsSliceOf.new _ vl vu vs) pl pu ps ?_ (by rw [List.size_toArray]; have := r.length; omega)
  refine ⟨.ref _, _, I5.laid (t' := s4.toks) (o := .tup xs.reverse) (fun b ob q => Heap.get?_push_of_some _ q) (Nat.le_refl _) ?_, rfl, q _ (I5.hok.fresh (Nat.le_refl _))⟩
  exact ⟨by rw [List.length_reverse]; exact hz, _, r.reverse, IsTup.new _ _⟩
def pyRevT : D → Option D
  | .tuple xs => some (.tuple xs.reverse)
  | _ => none
theorem d_revT {k : Nat} {p1 p2 p3 : Pos} (h : PED X g W a ta fa) : PED X g W (.Subscript a (.Slice none none (some (.UnaryOp .USub (.Constant (.int 1) k p1) p2)) p3) pos) (tRevT X.K ta) (dUn pyRevT fa) := ⟨pe_revT h.pe, fun H0 sd μ w σ SS S => by
  refine Out.bind (T1 := fun x H1 Q => ∃ a xs, x = .ref a ∧ SqT X.K H1 a xs ∧ ∀ p, H1 p = none → Q (V.ref p) (upd H1 p (.tup xs.reverse))) (h.ev H0 sd μ w σ SS S) fun d μ1 w1 x l1 S1 r => ?_
  refine Out.lift fun z hz => ?_
  unfold pyRevT at hz
  split at hz
  · cases hz
    obtain ⟨a, xs, rfl, ha, ra⟩ := r.tupV
    exact Out.newT S1 ra.reverse fun Q q => ⟨a, xs, rfl, S1.sub.sqT ha, q⟩
  · cases hz⟩
end
end DL

set_option maxHeartbeats 4000000
/-! DLDct: a dict of numbers that the store keeps: made, read, written, walked. -/
namespace DL
open PySem PySem.Spec PyProof.Rows L2
/-! ### numbers by numbers -/
def atK (kvs : List (Int × Int)) (k : Int) : Option Int := (kvs.find? fun p => decide (p.1 = k)).map (·.2)
def putI (kvs : List (Int × Int)) (k v : Int) : List (Int × Int) := if (kvs.any fun p => decide (p.1 = k)) = true then kvs.map (fun p => if p.1 = k then (p.1, v) else p) else kvs ++ [(k, v)]
theorem inl_eq (a b : Int) : ((Sum.inl a : Key) = Sum.inl b) = (a = b) := propext ⟨fun h => Sum.inl.inj h, fun h => by rw [h]⟩
theorem valV_enc (k : Int) : ∀ kvs : List (Int × Int), valV (encK kvs) (.inl k) = (atK kvs k).map V.int
  | [] => rfl
  | p :: r => by
    show valV (((Sum.inl p.1, V.int p.2) : Key × V) :: encK r) (.inl k) = _
    by_cases e : p.1 = k
    · rw [valV_pos (by rw [e])]
      simp [atK, List.find?_cons, e]
    · rw [valV_neg (fun z => e (Sum.inl.inj z)), valV_enc k r]
      simp [atK, List.find?_cons, e]
theorem putK_enc (k v : Int) (kvs : List (Int × Int)) : putK (encK kvs) (.inl k) (.int v) = encK (putI kvs k v) := by
  have e1 : ((encK kvs).any fun kv => decide (kv.1 = (Sum.inl k : Key))) = kvs.any fun p => decide (p.1 = k) := by
    unfold encK
    rw [List.any_map]
    congr 1
    funext p
    show decide ((Sum.inl p.1 : Key) = Sum.inl k) = decide (p.1 = k)
    exact decide_eq_decide.mpr (by rw [inl_eq])
  unfold putK putI
  rw [e1]
  by_cases c : (kvs.any fun p => decide (p.1 = k)) = true
  · rw [if_pos c, if_pos c]
    unfold encK
    rw [List.map_map, List.map_map]
    refine List.map_congr_left fun p _ => ?_
    show (if (Sum.inl p.1 : Key) = Sum.inl k then (Sum.inl p.1, V.int v) else (Sum.inl p.1, V.int p.2)) = _
    by_cases e : p.1 = k
    · rw [if_pos (by rw [e])]
      show _ = (((Sum.inl (if p.1 = k then (p.1, v) else p).1) : Key), V.int (if p.1 = k then (p.1, v) else p).2)
      rw [if_pos e]
    · rw [if_neg (fun z => e (Sum.inl.inj z))]
      show _ = (((Sum.inl (if p.1 = k then (p.1, v) else p).1) : Key), V.int (if p.1 = k then (p.1, v) else p).2)
      rw [if_neg e]
  · rw [if_neg c, if_neg c]
    unfold encK
    rw [List.map_append]
    rfl
section
variable {X : Cx} {g : G} {W : WX} {a b c e o : Expr} {ta tb tc te : TE} {fa fb fc fe : DE} {pos : Pos}
theorem Out.ofT {α β : Type} {K : Frag} {σ : L2.St} {w : Wd} {Rel : Wd → β → α → Prop} {r : Res α} {T T' : (β → Hp → Prop) → Prop} (h : Out K g W σ w Rel r T') (k : ∀ Q, T' Q → T Q) : Out K g W σ w Rel r T := by
  cases r with
  | ok a μ' => exact fun Q q => k Q (h Q q)
  | exc c μ' => exact fun Q q => k Q (h Q q)
  | bad => trivial
theorem cell_rd {K : Frag} {w : Wd} {p : Addr} {h : Option Obj} {kvs : List (Int × Int)} (x : CellAt K g w p (.dct h kvs)) : Rd w.H p (.dK (encK kvs)) := by
  cases h with
  | none => exact .inl x
  | some o => exact .inr ⟨o, x⟩
theorem cell_dct {K : Frag} {w : Wd} {μ : Mu} {k : Nat} {p : Addr} {h : Option Obj} {kvs : List (Int × Int)} (S : Sim K g w μ) (e : w.as[k]? = some p) (m : μ[k]? = some (.dct h kvs)) : CellAt K g w p (.dct h kvs) := by
  obtain ⟨p', e', _, x⟩ := S.cell _ _ m
  rw [e] at e'
  cases e'
  exact x
/-! ### made -/
theorem new_cellD {K : Frag} {w : Wd} {μ : Mu} {x : Addr} {u : HO} {cc : Cell} (S : Sim K g w μ) (hx : w.H x = none) (hc : CellAt K g ⟨w.as ++ [x], w.F, upd w.H x u⟩ x cc) :
    Le w ⟨w.as ++ [x], w.F, upd w.H x u⟩ ∧ Sim K g ⟨w.as ++ [x], w.F, upd w.H x u⟩ (μ ++ [cc]) ∧ (w.as ++ [x])[μ.length]? = some x := by
  have pre : Pre w.as (w.as ++ [x]) := fun k a h => by rw [List.getElem?_append_left (List.getElem?_eq_some_iff.mp h).1]; exact h
  have top : (w.as ++ [x])[μ.length]? = some x := by rw [← S.len, List.getElem?_append_right (Nat.le_refl _)]; simp
  have old {b : Addr} {v : HO} (h : w.H b = some v) : (upd w.H x u) b = some v := by
    rw [upd_ne (ne_of_none h hx)]
    exact h
  have nx : x ∉ w.as := S.notas hx
  refine ⟨⟨pre, .refl _, fun a o h => .inl h, fun a o h _ => old h, fun a h => ?_, fun a h => ?_⟩, ⟨fun a u h => old (S.sub a u h), fun j k a hj hk => ?_, by simp [S.len], fun k c ek => ?_⟩, top⟩
  · have h : a ∈ w.as ++ [x] := h
    rcases List.mem_append.mp h with h | h
    · exact .inl h
    · rw [show a = x by simpa using h]
      exact .inr hx
  · cases q : w.H a with
    | none => rfl
    | some o =>
      have h : (upd w.H x u) a = none := h
      rw [old q] at h
      cases h
  · have get : ∀ (j : Nat) (b : Addr), (w.as ++ [x])[j]? = some b → w.as[j]? = some b ∨ (j = w.as.length ∧ b = x) := fun j b h => by
      rcases Nat.lt_or_ge j w.as.length with hlt | hge
      · rw [List.getElem?_append_left hlt] at h
        exact .inl h
      · rw [List.getElem?_append_right hge] at h
        have := (List.getElem?_eq_some_iff.mp h).1
        have hj : j = w.as.length := by simp at this; omega
        subst hj
        simp at h
        exact .inr ⟨rfl, h.symm⟩
    rcases get j a hj with hj' | ⟨rfl, rfl⟩ <;> rcases get k a hk with hk' | ⟨rfl, z⟩
    · exact S.nd j k a hj' hk'
    · subst z; exact absurd (List.mem_of_getElem? hj') nx
    · exact absurd (List.mem_of_getElem? hk') nx
    · rfl
  · rcases Nat.lt_or_ge k μ.length with hlt | hge
    · rw [List.getElem?_append_left hlt] at ek
      obtain ⟨b, e1, f1, x1⟩ := S.cell k c ek
      obtain ⟨v, hv⟩ := x1.some
      exact ⟨b, pre _ _ e1, f1, Sim.cellMono (w := w) pre (.refl _) ((old hv).trans hv.symm) x1⟩
    · rw [List.getElem?_append_right hge] at ek
      have hk : k = μ.length := by
        have := (List.getElem?_eq_some_iff.mp ek).1
        simp at this
        omega
      subst hk
      simp at ek
      subst ek
      exact ⟨x, top, S.sub.none hx, hc⟩
/-- x = {} -/
def sNewD (i : Nat) : DS := fun sd μ => .ok (.next (sd.set i (some (.v (tok μ.length))))) (μ ++ [.dct none []])
theorem s_newD {i : Nat} {x : Str} {p dpos : Pos} (hN : X.N.Nodup) (hi : X.N[i]? = some x := by rfl) (hx : Loc X.env.scope x := by first | exact Or.inl rfl | exact Or.inr rfl) (hs : swapsWith (.Dict [] [] dpos) (some (.Name x p)) pos.line X.env = pure false := by rfl)
    (hf : X.fn x = true ∨ X.env.scope.names.lookup x = some .local := by first | exact .inl rfl | exact .inr rfl) : PSD X g W (.Assign [.Name x p] (.Dict [] [] dpos) pos) (tAsg tDNewK (gName i)) (sNewD i) :=
  ⟨ps_set hN hi hx pe_dnewK hs hf, fun w0 sd μ w σ l SS S E q => fun p hp => by
    obtain ⟨l1, S1, top⟩ := new_cellD (cc := .dct none []) (u := .dK []) S hp upd_same
    exact q _ _ (l.trans l1) l1.wk ((SS.le l1).setV i (.tok top)) S1⟩
/-! ### read -/
/-- x.get(k, y) -/
def dGetD (fa fb fc : DE) : DE := fun sd μ => (fa sd μ).bind fun d μ1 => match d with
  | .dict [(.none, .int k)] => match μ1[k.toNat]? with
    | some (.dct _ _) => (fb sd μ1).bind fun y μ2 => (fc sd μ2).bind fun z μ3 => match μ3[k.toNat]?, y with
      | some (.dct _ kvs), .int j => .ok (match atK kvs j with | some v => .int v | none => z) μ3
      | _, _ => .bad
    | _ => .bad
  | _ => .bad
theorem d_getD {apos cpos : Pos} (hu : X.A.units + 100 < cLine) (ha : PED X g W a ta fa) (hb : PED X g W b tb fb) (hc : PED X g W c tc fc) (m : M2 X a "get" apos b c cpos := by exact ⟨rfl, rfl, rfl, rfl⟩) :
    PED X g W (.Call (.Attribute a "get" apos) [b, c] [] cpos) (tDGet2 ta tb tc) (dGetD fa fb fc) := ⟨pe_dget2 (by omega) ha.pe hb.pe hc.pe m, fun H0 sd μ w σ SS S => by
  refine Out.bind (T1 := fun x H1 Q => ∃ a, x = .ref a ∧ IsD H1 a ∧ tb σ H1 fun y H2 => tc σ H2 fun z H3 => ∃ o, DGet H3 a y o ∧ Q (o.getD z) H3) (ha.ev H0 sd μ w σ SS S) fun d μ1 w1 x l1 S1 rx => ?_
  split
  · rename_i k
    obtain ⟨p, rfl, ep⟩ := Rp.tokI rx
    split
    · rename_i h0 kvs0 e0
      refine Out.ofT (T' := fun Q => tb σ w1.H fun y H2 => tc σ H2 fun z H3 => ∃ o, DGet H3 p y o ∧ Q (o.getD z) H3) ?_ fun Q q => ⟨p, rfl, .inl ⟨_, cell_rd (cell_dct S1 ep e0)⟩, q⟩
      refine Out.bind (T1 := fun y H2 Q => tc σ H2 fun z H3 => ∃ o, DGet H3 p y o ∧ Q (o.getD z) H3) (hb.ev H0 sd μ1 w1 σ (SS.le l1) S1) fun y μ2 w2 yv l2 S2 ry => ?_
      refine Out.bind (T1 := fun z H3 Q => ∃ o, DGet H3 p yv o ∧ Q (o.getD z) H3) (hc.ev H0 sd μ2 w2 σ (SS.le (l1.trans l2)) S2) fun z μ3 w3 zv l3 S3 rz => ?_
      split
      · rename_i h3 kvs j e3
        have ry := (ry.le l3).intV
        subst ry
        have cr := cell_rd (cell_dct S3 (l3.pre _ _ (l2.pre _ _ ep)) e3)
        have rg : Rp X.K w3.as w3.F ((valV (encK kvs) (.inl j)).getD zv) (match atK kvs j with | some v => .int v | none => z) := by
          rw [valV_enc]
          cases atK kvs j with
          | none => exact rz
          | some v => exact .int v
        exact Out.ok S3 rg fun Q q => ⟨valV (encK kvs) (.inl j), .inl ⟨_, _, cr, rfl, rfl⟩, q⟩
      · trivial
    · trivial
  · trivial⟩
/-- x[k] -/
def pyIxD (μ : Mu) : D → D → Option D
  | .dict [(.none, .int k)], .int j => match μ[k.toNat]? with
    | some (.dct _ kvs) => (atK kvs j).map .int
    | _ => none
  | _, _ => none
def rIxD : R2 := fun x y H Q => ∃ a v, x = .ref a ∧ DGet H a y (some v) ∧ Q v H
theorem rd_ixD {K : Frag} : R2M K g W rIxD pyIxD := fun μ w σ x y d e z S rx ry hz => by
  unfold pyIxD at hz
  split at hz
  · rename_i k j
    obtain ⟨p, rfl, ep⟩ := Rp.tokI rx
    rw [ry.intV]
    split at hz
    · rename_i h kvs e0
      have cr := cell_rd (cell_dct S ep e0)
      have ev := valV_enc j kvs
      cases q : atK kvs j with
      | none => rw [q] at hz; cases hz
      | some v =>
        rw [q] at hz ev
        cases hz
        exact Out.ok S (.int v) fun Q q => ⟨p, .int v, rfl, .inl ⟨_, _, cr, rfl, ev.symm⟩, q⟩
    · cases hz
  · cases hz
theorem d_ixD (hu : X.A.units + 100 < cLine) (ha : PED X g W a ta fa) (hb : PED X g W b tb fb) (hs : NoSl b := by intro _ _; rfl) : PED X g W (.Subscript a b pos) (tOp rIxD ta tb) (dBinM pyIxD fa fb) := ⟨pe_dget (by omega) ha.pe hb.pe hs, ev_binM rd_ixD ha.ev hb.ev⟩
/-! ### written -/
/-- x[k] = v -/
def putR (sd : Slots) (μ : Mu) : D → D → D → Res Flw
  | .dict [(.none, .int k)], .int j, .int i => match μ[k.toNat]? with
    | some (.dct none kvs) => if kvs.length < 100000 then .ok (.next sd) (μ.set k.toNat (.dct none (putI kvs j i))) else .bad
    | _ => .bad
  | _, _, _ => .bad
def sPutD (fa fb fc : DE) : DS := fun sd μ => (fc sd μ).bind fun v μ1 => (fa sd μ1).bind fun d μ2 => (fb sd μ2).bind fun y μ3 => putR sd μ3 d y v
theorem s_putD {pos' : Pos} (hu : X.A.units + 100 < cLine) (ha : PED X g W a ta fa) (hb : PED X g W b tb fb) (hc : PED X g W c tc fc) (hs : swapsWith c (some (.Subscript a b pos')) pos.line X.env = pure false := by rfl) :
    PSD X g W (.Assign [.Subscript a b pos'] c pos) (sDPut ta tb tc) (sPutD fa fb fc) := ⟨ps_dput (by omega) ha.pe hb.pe hc.pe hs, fun w0 sd μ w σ l SS S E q =>
  Out.wants (hc.ev w0.H sd μ w σ SS S) l q fun v μ1 w1 xv l1 S1 rv q1 =>
  Out.wants (ha.ev w0.H sd μ1 w1 σ (SS.le l1) S1) (l.trans l1) q1 fun d μ2 w2 xd l2 S2 rd q2 =>
  Out.wants (hb.ev w0.H sd μ2 w2 σ (SS.le (l1.trans l2)) S2) ((l.trans l1).trans l2) q2 fun y μ3 w3 xy l3 S3 ry q3 => by
    unfold putR at q3
    split at q3
    · rename_i k j i
      obtain ⟨p, rfl, ep⟩ := Rp.tokI rd
      split at q3
      · rename_i kvs e3
        split at q3
        · rename_i hl
          rw [(rv.le (l2.trans l3)).intV, ry.intV]
          obtain ⟨p', ep', hF, ca, kk⟩ := cell_write S3 e3
          have ez := l3.pre _ _ ep
          rw [ez] at ep'
          cases ep'
          obtain ⟨k1, k2⟩ := kk (.dK (putK (encK kvs) (.inl j) (.int i))) (.dct none (putI kvs j i)) (by
            show (upd w3.H p _) p = some (HO.dK (encK (putI kvs j i)))
            rw [upd_same, putK_enc])
          have ca : w3.H p = some (.dK (encK kvs)) := ca
          exact ⟨p, _, rfl, .inl ⟨encK kvs, .inl j, ca, rfl, by unfold encK; rw [List.length_map]; exact sizeLt hl, rfl⟩, q3 _ σ ((((l.trans l1).trans l2).trans l3).trans k1) k1.wk ((SS.le ((l1.trans l2).trans l3)).le k1) k2⟩
        · exact q3.elim
      · exact q3.elim
    · exact q3.elim⟩
/-! ### walked -/
open Classical in
/-- the loop, while the k-th cell stays c -/
noncomputable def forLoopD (tgt : DG) (fb : DS) (k : Nat) (cc : Cell) : List D → DS
  | [], sd, μ => if μ[k]? = some cc then .ok (.next sd) μ else .bad
  | d :: ds, sd, μ => if μ[k]? = some cc then match tgt d sd with
    | none => .bad
    | some sd1 => (fb sd1 μ).bind (thenF (forLoopD tgt fb k cc ds)) else .bad
/-- what the loop does, whatever object holds the dict -/
def WalksTo (tgt : DG) (fb : DS) (k : Nat) (kvs : List (Int × Int)) (sd : Slots) (μ : Mu) (p : Flw × Mu) : Prop :=
  p.2[k]? = some (.dct none kvs) ∧ ∀ od, forLoopD tgt fb k (.dct (some od) kvs) (kvs.map fun q => .int q.1) sd (μ.set k (.dct (some od) kvs)) = .ok p.1 (p.2.set k (.dct (some od) kvs))
theorem set_back {μ : Mu} {k : Nat} {cc c2 : Cell} (h : μ[k]? = some cc) : (μ.set k c2).set k cc = μ := by
  rw [List.set_set]
  apply List.ext_getElem?
  intro j
  by_cases e : k = j
  · subst e
    rw [List.getElem?_set_self (List.getElem?_eq_some_iff.mp h).1, h]
  · rw [List.getElem?_set_ne e]
theorem WalksTo.uniq {tgt : DG} {fb : DS} {k : Nat} {kvs : List (Int × Int)} {sd : Slots} {μ : Mu} {p q : Flw × Mu} (h : WalksTo tgt fb k kvs sd μ p) (h' : WalksTo tgt fb k kvs sd μ q) : p = q := by
  have od : Obj := { cls := .none, data := .dict #[] }
  have e := (h.2 od).symm.trans (h'.2 od)
  injection e with e1 e2
  have e3 := congrArg (fun m : Mu => m.set k (.dct none kvs)) e2
  simp only [set_back h.1, set_back h'.1] at e3
  exact Prod.ext e1 e3
open Classical in
/-- for y in x, x a dict -/
noncomputable def sForD (i : Nat) (tgt : DG) (fb : DS) : DS := fun sd μ => match sd[i]? with
  | some (some (.v (.dict [(.none, .int k)]))) => match μ[k.toNat]? with
    | some (.dct none kvs) => if h : ∃ p, WalksTo tgt fb k.toNat kvs sd μ p then .ok (choose h).1 (choose h).2 else .bad
    | _ => .bad
  | _ => .bad
theorem forD_eq {i k : Nat} {tgt : DG} {fb : DS} {sd : Slots} {μ μ' : Mu} {kvs : List (Int × Int)} {fl : Flw} (h1 : sd[i]? = some (some (.v (tok k)))) (h2 : μ[k]? = some (.dct none kvs)) (h : WalksTo tgt fb k kvs sd μ (fl, μ')) : sForD i tgt fb sd μ = .ok fl μ' := by
  have ex : ∃ p, WalksTo tgt fb k kvs sd μ p := ⟨_, h⟩
  have e := (Classical.choose_spec ex).uniq h
  unfold sForD
  rw [h1]
  show (match μ[(k : Int).toNat]? with | some (.dct none kvs) => _ | _ => _) = _
  rw [Int.toNat_natCast, h2]
  refine (dif_pos ex).trans ?_
  rw [e]
theorem s_forD {i : Nat} {tg : Expr} {body : List Stmt} {gt : TG} {tb : TS} {is : List Nat} {tgt : DG} {fb : DS} (hp : PassesOwn (model X.prog X.w) X.A X.env X.xe) (ho : PED X g W o (tVar i) (dVar i)) (hg : PGD X g tg gt tgt is) (hb : PBD X g W body tb fb) (hc : X.calm = true := by rfl)
    (hs : ∀ x, foldedSetIterable o X.env x = pure x := by intro _; rfl) : PSD X g W (.For tg o body [] pos) (tLock (tFor (iKeys (tVar i)) gt tb)) (sForD i tgt fb) := ⟨ps_lock (ps_for hp hc (pi_keys ho.pe) hg.pg hb.pss hs), fun w0 sd μ w σ l SS S E q => by
  unfold sForD at q
  split at q
  · rename_i k e1
    obtain ⟨x, hx, rx⟩ := SS.at_ i _ e1
    obtain ⟨p, rfl, ep⟩ := Rp.tokI rx
    split at q
    · rename_i kvs e2
      split at q
      · rename_i ex
        have sp := Classical.choose_spec ex
        generalize Classical.choose ex = pr at q sp
        obtain ⟨fl, μ'⟩ := pr
        obtain ⟨sp1, sp2⟩ := sp
        obtain ⟨p', ep', hF, ca, kk⟩ := cell_write S e2
        rw [ep] at ep'
        cases ep'
        have ca : w.H p = some (.dK (encK kvs)) := ca
        refine ⟨p, .dK (encK kvs), ca, True.intro, fun od => ?_⟩
        obtain ⟨l1, S1⟩ := kk (.frz od (.dK (encK kvs))) (.dct (some od) kvs) upd_same
        refine ⟨.ref p, hx, p, od, rfl, .inl ⟨encK kvs, upd_same, ?_⟩⟩
        generalize hE : (⟨fun σ' H' => H' p = some (.frz od (.dK (encK kvs))) ∧ E.nx σ' (upd H' p (.dK (encK kvs))), fun v H' => H' p = some (.frz od (.dK (encK kvs))) ∧ E.rt v (upd H' p (.dK (encK kvs))), fun σ' H' => H' p = some (.frz od (.dK (encK kvs))) ∧ E.bk σ' (upd H' p (.dK (encK kvs))), fun σ' H' => H' p = some (.frz od (.dK (encK kvs))) ∧ E.ct σ' (upd H' p (.dK (encK kvs)))⟩ : Ends) = E'
        -- the end of the loop gives the dict free
        have free : ∀ w' : Wd, Wk (w.lay p (.frz od (.dK (encK kvs)))) w' → Sim X.K g w' (μ'.set k.toNat (.dct (some od) kvs)) → w'.H p = some (.frz od (.dK (encK kvs))) ∧ Le w' (w'.lay p (.dK (encK kvs))) ∧ Sim X.K g (w'.lay p (.dK (encK kvs))) μ' := fun w' k' S' => by
          have hk := (List.getElem?_eq_some_iff.mp sp1).1
          obtain ⟨p2, ep2, _, ca2, kk2⟩ := cell_write S' (List.getElem?_set_self (a := .dct (some od) kvs) hk)
          have e3 : w'.as[k.toNat]? = some p := k'.pre _ _ ep
          rw [e3] at ep2
          cases ep2
          obtain ⟨l3, S3⟩ := kk2 (.dK (encK kvs)) (.dct none kvs) upd_same
          rw [set_back sp1] at S3
          exact ⟨ca2, l3, S3⟩
        have wk0 : ∀ w' : Wd, Wk (w.lay p (.frz od (.dK (encK kvs)))) w' → Wk w w' := fun w' k' => ⟨k'.pre, k'.ex⟩
        have w1 : Wants X.K g W w0 (w.lay p (.frz od (.dK (encK kvs)))) E' (forLoopD tgt fb k.toNat (.dct (some od) kvs) (kvs.map fun q => .int q.1) sd (μ.set k.toNat (.dct (some od) kvs))) := by
          rw [sp2 od]
          subst hE
          cases fl with
          | next sd' =>
            intro w' σ' l' k' SS' S'
            obtain ⟨h1, l3, S3⟩ := free w' k' S'
            exact ⟨h1, q _ σ' (l'.trans l3) ((wk0 w' k').trans l3.wk) (SS'.le l3) S3⟩
          | ret d =>
            intro w' v l' k' S' r
            obtain ⟨h1, l3, S3⟩ := free w' k' S'
            exact ⟨h1, q _ v (l'.trans l3) ((wk0 w' k').trans l3.wk) S3 (r.le l3)⟩
        generalize hD : (kvs.map fun q => PyData.int q.1) = ds at w1
        have dl : ds.length = kvs.length := by rw [← hD, List.length_map]
        have enl : (encK kvs).length = kvs.length := by unfold encK; rw [List.length_map]
        let Pv : Nat → L2.St → Hp → Prop := fun j σ' H => ∃ w' sdi μi, w'.H = H ∧ Le w0 w' ∧ Wk (w.lay p (.frz od (.dK (encK kvs)))) w' ∧ SimS X.K w0.H w' sdi σ' ∧ Sim X.K g w' μi ∧ Wants X.K g W w0 w' E' (forLoopD tgt fb k.toNat (.dct (some od) kvs) (ds.drop j) sdi μi)
        refine ⟨fun j m σ' H => m = ds.length - j ∧ j ≤ ds.length ∧ Pv j σ' H, ⟨ds.length, by simp, Nat.zero_le _, _, sd, _, rfl, l.trans l1, .refl _, SS.le l1, S1, w1⟩, ?_⟩
        rintro j m σ' H ⟨rfl, hle, w', sdi, μi, rfl, l', k', SS', S', q'⟩
        have held : μi[k.toNat]? = some (.dct (some od) kvs) → w'.H p = some (.frz od (.dK (encK kvs))) := fun hm => cell_dct S' (k'.pre _ _ ep) hm
        by_cases hlt : j < ds.length
        · rw [List.drop_eq_getElem_cons hlt] at q'
          unfold forLoopD at q'
          split at q'
          · rename_i hm
            have hd := held hm
            refine .inr ⟨⟨hd, by omega⟩, Pv (j + 1), fun σ' H' p' => ⟨ds.length - (j + 1), by omega, rfl, hlt, p'⟩, fun x H' hy => ?_⟩
            obtain ⟨rfl, kk3, v, hv, rfl⟩ := hy
            have hj : j < kvs.length := by omega
            have eg : (encK kvs)[j]? = some ((Sum.inl (kvs[j]).1 : Key), V.int (kvs[j]).2) := by
              unfold encK
              rw [List.getElem?_map, List.getElem?_eq_getElem hj]
              rfl
            rw [eg] at hv
            cases hv
            have ed : ds[j] = .int (kvs[j]).1 := by
              have : ds[j]? = some (.int (kvs[j]).1) := by rw [← hD, List.getElem?_map, List.getElem?_eq_getElem hj]; rfl
              rw [List.getElem?_eq_getElem hlt] at this
              exact Option.some.inj this
            cases eT : tgt ds[j] sdi with
            | none => rw [eT] at q'; exact q'.elim
            | some sd1 =>
              rw [eT] at q'
              refine hg.ev w0.H sdi sd1 w' σ' μi _ ds[j] SS' S' (by rw [ed]; exact .int _) eT _ fun σ2 SS2 _ => hb.ev w0 sd1 μi w' σ2 l' SS2 S' _ (Wants.seq q' rfl fun sd3 μ3 w3 σ3 l3 k3 SS3 S3 q3 => ?_)
              exact ⟨w3, sd3, μ3, rfl, l3, k'.trans k3, SS3, S3, q3⟩
          · exact q'.elim
        · have e : j = ds.length := by omega
          subst e
          rw [List.drop_length] at q'
          unfold forLoopD at q'
          split at q'
          · rename_i hm
            exact .inl ⟨⟨held hm, by omega⟩, q' w' σ' l' (.refl _) SS' S'⟩
          · exact q'.elim
      · exact q.elim
    · exact q.elim
  · exact q.elim⟩
end
/-- a walk whose turns leave the store -/
theorem forD_pure {α : Type} (en : α → D) {tgt : DG} {fb : DS} {k : Nat} {μ : Mu} {kvs : List (Int × Int)} (hk : k < μ.length) (P : Slots → Prop) : ∀ {xs : List α} (step : ∀ x ∈ xs, ∀ sd, P sd → ∃ sd1 sd2, tgt (en x) sd = some sd1 ∧ (∀ od : Obj, fb sd1 (μ.set k (.dct (some od) kvs)) = .ok (.next sd2) (μ.set k (.dct (some od) kvs))) ∧ P sd2) {sd : Slots}, P sd →
    ∃ sd', (∀ od : Obj, forLoopD tgt fb k (.dct (some od) kvs) (xs.map en) sd (μ.set k (.dct (some od) kvs)) = .ok (.next sd') (μ.set k (.dct (some od) kvs))) ∧ P sd'
  | [], _, sd, h => ⟨sd, fun od => by
    exact if_pos (List.getElem?_set_self hk), h⟩
  | x :: xs, step, sd, h => by
    obtain ⟨sd1, sd2, h1, h2, h3⟩ := step x List.mem_cons_self sd h
    obtain ⟨sd', h4, h5⟩ := forD_pure en hk P (xs := xs) (fun y hy => step y (List.mem_cons_of_mem _ hy)) h3
    refine ⟨sd', fun od => ?_, h5⟩
    rw [List.map_cons]
    unfold forLoopD
    rw [if_pos (List.getElem?_set_self hk), h1]
    show (fb sd1 _).bind _ = _
    rw [h2 od, Res.bind_ok]
    exact h4 od
end DL

set_option maxHeartbeats 4000000
/-! DLThrow: lists that were just made are written and thrown away: e.append(None); for y in e: y.append(None). -/
namespace DL
open PySem PySem.Spec PyProof.Rows L2
/-! ### data without lists -/
mutual
def noL : D → Bool
  | .none | .bool _ | .int _ | .str _ => true
  | .list _ => false
  | .tuple xs => noLA xs
  | .dict [(.none, .int _)] => true
  | .dict _ => false
def noLA : List D → Bool
  | [] => true
  | x :: xs => noL x && noLA xs
end
def Keeps (F F' : Hp) : Prop := ∀ a o, F a = some o → (∀ xs, o ≠ .lst xs) → F' a = some o
theorem Keeps.sqT {K : Frag} {F F' : Hp} (k : Keeps F F') {a : Addr} {xs : List V} (h : SqT K F a xs) : SqT K F' a xs := by
  rcases h with (h | ⟨o, h⟩) | h
  · exact .inl (.inl (k _ _ h fun _ e => nomatch e))
  · exact .inl (.inr ⟨o, k _ _ h fun _ e => nomatch e⟩)
  · exact .inr h
mutual
theorem Rp.nol {K : Frag} {as : List Addr} {F F' : Hp} (k : Keeps F F') : ∀ {d : D} {v : V}, noL d = true → Rp K as F v d → Rp K as F' v d
  | _, _, _, .non => .non
  | _, _, _, .bl b => .bl b
  | _, _, _, .int i => .int i
  | _, _, _, .str x => .str x
  | _, _, p, .lst _ _ => by simp [noL] at p
  | _, _, p, .tup h r => .tup (k.sqT h) (RpA.nol k (by simpa [noL] using p) r)
  | _, _, p, .scr _ _ => by simp [noL] at p
  | _, _, _, .tok h => .tok h
theorem RpA.nol {K : Frag} {as : List Addr} {F F' : Hp} (k : Keeps F F') : ∀ {ds : List D} {vs : List V}, noLA ds = true → RpA K as F vs ds → RpA K as F' vs ds
  | _, _, _, .nil => .nil
  | d :: ds, _, p, .cons h r => by
    have p' : noL d = true ∧ noLA ds = true := by simpa [noLA] using p
    exact .cons (Rp.nol k p'.1 h) (RpA.nol k p'.2 r)
end
def cellNL : Cell → Bool
  | .lst xs => noLA xs
  | .ins fs => fs.all fun p => noL p.2
  | .dct _ _ => true
theorem FsAt.nol {K : Frag} {as : List Addr} {F F' : Hp} (k : Keeps F F') : ∀ {vs : List (Str × V)} {ds : List (Str × D)}, (ds.all fun p => noL p.2) = true → FsAt K as F vs ds → FsAt K as F' vs ds
  | _, _, _, .nil => .nil
  | _, d :: ds, p, .cons ⟨e, r⟩ t => by
    rw [List.all_cons, Bool.and_eq_true] at p
    exact .cons ⟨e, r.nol k p.1⟩ (FsAt.nol k p.2 t)
theorem CellAt.nol {K : Frag} {g : G} {w w' : Wd} {a : Addr} {c : Cell} (has : w'.as = w.as) (k : Keeps w.F w'.F) (h : w'.H a = w.H a) (p : cellNL c = true) (x : CellAt K g w a c) : CellAt K g w' a c := by
  cases c with
  | lst xs =>
    obtain ⟨vs, h1, r⟩ := x
    exact ⟨vs, h.trans h1, by rw [has]; exact r.nol k p⟩
  | ins fs =>
    obtain ⟨dx, vfs, h1, r⟩ := x
    exact ⟨dx, vfs, h.trans h1, by rw [has]; exact FsAt.nol k p r⟩
  | dct hd kvs => exact h.trans x
/-! ### the world without lists -/
def small (F : Hp) : Hp := fun a => match F a with
  | some (.lst _) => none
  | o => o
theorem small_keeps (F : Hp) : Keeps F (small F) := fun a o h n => by
  unfold small
  rw [h]
  cases o with
  | lst xs => exact absurd rfl (n xs)
  | _ => rfl
theorem small_of {F : Hp} {a : Addr} {o : HO} (h : small F a = some o) : F a = some o ∧ ∀ xs, o ≠ .lst xs := by
  unfold small at h
  cases e : F a with
  | none => rw [e] at h; cases h
  | some u =>
    rw [e] at h
    cases u with
    | lst xs => cases h
    | _ => cases h; exact ⟨rfl, fun _ e => nomatch e⟩
def Wd.small (w : Wd) : Wd := ⟨w.as, DL.small w.F, w.H⟩
theorem Sim.small {K : Frag} {g : G} {w : Wd} {μ : Mu} (S : Sim K g w μ) (h : μ.all cellNL = true) : Sim K g w.small μ := by
  refine ⟨fun a o e => S.sub a o (small_of e).1, S.nd, S.len, fun k c e => ?_⟩
  obtain ⟨a, ea, hF, ca⟩ := S.cell k c e
  refine ⟨a, ea, ?_, CellAt.nol (w := w) rfl (small_keeps w.F) rfl (List.all_eq_true.mp h c (List.mem_of_getElem? e)) ca⟩
  show DL.small w.F a = none
  cases q : DL.small w.F a with
  | none => rfl
  | some o => rw [(small_of q).1] at hF; cases hF
def keepNL : Option Sl → Option Sl
  | some (.v d) => if noL d = true then some (.v d) else none
  | _ => none
def smallS (sd : Slots) : Slots := sd.map keepNL
theorem SimS.small {K : Frag} {H0 : Hp} {w : Wd} {sd : Slots} {σ : L2.St} (SS : SimS K H0 w sd σ) : SimS K H0 w.small (smallS sd) σ := by
  have get : ∀ (i : Nat) s, (smallS sd)[i]? = some (some s) → ∃ d, s = .v d ∧ noL d = true ∧ sd[i]? = some (some (.v d)) := fun i s e => by
    unfold smallS at e
    rw [List.getElem?_map] at e
    cases q : sd[i]? with
    | none => rw [q] at e; cases e
    | some o =>
      rw [q] at e
      have e : some (keepNL o) = some (some s) := e
      cases o with
      | none => cases e
      | some z =>
        cases z with
        | own xs => cases e
        | v d =>
          have e : some (if noL d = true then some (Sl.v d) else none) = some (some s) := e
          by_cases c : noL d = true
          · rw [if_pos c] at e
            cases e
            exact ⟨d, rfl, c, rfl⟩
          · rw [if_neg c] at e
            cases e
  refine ⟨by unfold smallS; rw [List.length_map]; exact SS.len, fun i s e => ?_, fun i j xs ys a e1 => ?_⟩
  · obtain ⟨d, rfl, c, e⟩ := get i s e
    obtain ⟨x, hx, r⟩ := SS.at_ i _ e
    exact ⟨x, hx, Rp.nol (small_keeps w.F) c r⟩
  · obtain ⟨d, e, _⟩ := get i _ e1
    cases e
/-! ### back: what was made is thrown away -/
def mergeF (F F' : Hp) : Hp := fun a => match F a with
  | some o => some o
  | none => DL.small F' a
/-- H is w's heap but for lists that stand for good there -/
def Wr (w : Wd) (H : Hp) : Prop := ∀ b, H b = w.H b ∨ ∃ xs ys, w.F b = some (.lst xs) ∧ H b = some (.lst ys)
theorem back {K : Frag} {g : G} {w w' : Wd} {μ μ' : Mu} {H : Hp} (S : Sim K g w μ) (l : Le w.small w') (S' : Sim K g w' μ') (hc : μ'.all cellNL = true) (hH : Wr w' H) :
    Le w ⟨w'.as, mergeF w.F w'.F, H⟩ ∧ Sim K g ⟨w'.as, mergeF w.F w'.F, H⟩ μ' := by
  have fresh : ∀ b xs, w'.F b = some (.lst xs) → w.H b = none := fun b xs e => by
    rcases l.fresh b _ e with h | h
    · exact absurd rfl ((small_of h).2 xs)
    · exact h
  have same : ∀ b o, w.H b = some o → H b = w'.H b := fun b o e => by
    rcases hH b with h | ⟨xs, ys, h, _⟩
    · exact h
    · rw [fresh b xs h] at e; cases e
  have kp : Keeps w'.F (mergeF w.F w'.F) := fun b o e n => by
    unfold mergeF
    cases q : w.F b with
    | none => exact small_keeps _ b o e n
    | some u =>
      have hw := S.sub _ _ q
      have hb : b ∉ w.as := fun m => by rw [S.notF m] at q; cases q
      have h1 := l.keep b u hw hb
      have h2 := S'.sub _ _ e
      rw [h1] at h2
      exact h2
  refine ⟨⟨l.pre, fun b o e => ?_, fun b o e => ?_, fun b o e n => ?_, l.news, fun b e => ?_⟩, ⟨fun b o e => ?_, S'.nd, S'.len, fun k c e => ?_⟩⟩
  · show mergeF w.F w'.F b = some o
    unfold mergeF
    rw [e]
  · have e : mergeF w.F w'.F b = some o := e
    unfold mergeF at e
    cases q : w.F b with
    | some u => rw [q] at e; exact .inl e
    | none =>
      rw [q] at e
      have e : DL.small w'.F b = some o := e
      rcases l.fresh b _ (small_of e).1 with h | h
      · rw [(small_of h).1] at q; cases q
      · exact .inr h
  · show H b = some o
    rw [same b o e]
    exact l.keep b o e n
  · have e : H b = none := e
    rcases hH b with h | ⟨xs, ys, _, h⟩
    · exact l.mono b (h.symm.trans e)
    · rw [h] at e; cases e
  · have e : mergeF w.F w'.F b = some o := e
    show H b = some o
    unfold mergeF at e
    cases q : w.F b with
    | some u =>
      rw [q] at e
      cases e
      have hw := S.sub _ _ q
      rw [same b _ hw]
      exact l.keep b _ hw fun m => by rw [S.notF m] at q; cases q
    | none =>
      rw [q] at e
      have e : DL.small w'.F b = some o := e
      obtain ⟨e1, e2⟩ := small_of e
      rcases hH b with h | ⟨xs, ys, h, _⟩
      · rw [h]; exact S'.sub _ _ e1
      · rw [h] at e1; cases e1; exact absurd rfl (e2 xs)
  · obtain ⟨a, ea, hF, ca⟩ := S'.cell k c e
    have hh : H a = w'.H a := by
      rcases hH a with h | ⟨xs, ys, h, _⟩
      · exact h
      · rw [h] at hF; cases hF
    refine ⟨a, ea, ?_, CellAt.nol (w := w') rfl kp hh (List.all_eq_true.mp hc c (List.mem_of_getElem? e)) ca⟩
    show mergeF w.F w'.F a = none
    unfold mergeF
    cases q : w.F a with
    | none =>
      show DL.small w'.F a = none
      cases q2 : DL.small w'.F a with
      | none => rfl
      | some o => rw [(small_of q2).1] at hF; cases hF
    | some u =>
      rcases l.news a (List.mem_of_getElem? ea) with h | h
      · rw [S.notF h] at q; cases q
      · have := S.sub _ _ q
        rw [show w.H a = none from h] at this
        cases this
theorem Wr.refl (w : Wd) : Wr w w.H := fun b => .inl rfl
section
variable {X : Cx} {g : G} {W : WX} {a b c e o : Expr} {ta tb tc te : TE} {fa fb fc fe : DE} {pos : Pos}
/-! ### e.append(None) -/
def sAppNew (fe : DE) : DS := fun sd μ => if μ.all cellNL = true then match fe (smallS sd) μ with
  | .ok (.list ds) μ' => if μ'.all cellNL = true ∧ ds.length < 90000 then .ok (.next sd) μ' else .bad
  | _ => .bad
  else .bad
theorem s_appNew {apos cpos p1 : Pos} {j : Nat} (ho : PED X g W o te fe)
    (bm : PE X o te → PA X [.Constant .none j p1] (tCons (tC .non) tNil) → PE X (.Call (.Attribute o "append" apos) [.Constant .none j p1] [] cpos) (tBM X.K "list" rAppend te (tCons (tC .non) tNil)) := by exact fun ho ha => pe_bm PySem.F.plainAttrs_list PySem.F.slot_list_append PySem.F.type_list_append mt_append ho ha)
    (hst : starEach [.Constant .none j p1] X.env = (false, eval (.Constant .none j p1) X.env) :: starEach [] X.env := by rfl) (hs : swapsWith (.Call (.Attribute o "append" apos) [.Constant .none j p1] [] cpos) none pos.line X.env = pure false := by rfl) :
    PSD X g W (.Expr (.Call (.Attribute o "append" apos) [.Constant .none j p1] [] cpos) pos) (tDrop (tBM X.K "list" rAppend te (tCons (tC .non) tNil))) (sAppNew fe) := by
  refine ⟨ps_expr (bm ho.pe (pa_cons pe_non pa_nil hst)) hs, fun w0 sd μ w σ l SS S E q => ?_⟩
  unfold sAppNew at q
  split at q
  · rename_i hc
    have z := ho.ev w0.H (smallS sd) μ w.small σ SS.small (S.small hc)
    split at q
    · rename_i ds μ' e1
      rw [e1] at z
      split at q
      · rename_i h2
        refine z _ fun w' x l' S' r => ?_
        obtain ⟨p, vs, rfl, hp, ra⟩ := Rp.lstV r
        have hH := S'.sub _ _ hp
        refine ⟨isL hH, p, vs, .non, rfl, rfl, hH, sizeLt (by rw [ra.length]; omega), ?_⟩
        obtain ⟨k1, k2⟩ := back (H := upd w'.H p (.lst (vs ++ [.non]))) S l' S' h2.1 fun b => by
          by_cases e : b = p
          · subst e
            exact .inr ⟨vs, _, hp, upd_same⟩
          · exact .inl (upd_ne e)
        exact q _ σ (l.trans k1) k1.wk (SS.le k1) k2
      · exact q.elim
    · exact q.elim
  · exact q.elim
/-! ### for y in e: y.append(None) -/
/-- no list stands where a tuple of the module stands -/
def NK (K : Frag) (H : Hp) : Prop := ∀ b xs ob, H b = some (.lst xs) → K.lookup b = some ob → ob.cls ≠ .type "tuple"
theorem nk_of {pins : List (Addr × Obj)} {σ : L2.St} {H : Hp} {s : Shared} (I : Inv X pins σ H s) : NK X.K H := fun b xs ob hb hk hc => by
  obtain ⟨_, its, n, _, e⟩ := (show ObjOk X.prog X.w H s.heap b (.lst xs) from I.hok b _ hb)
  have := I.kIn b ob hk
  rw [e] at this
  have eo := Option.some.inj this
  rw [← eo] at hc
  injection hc with h
  exact absurd h (by decide)
def tNK (K : Frag) (te : TE) : TE := fun σ H Q => te σ H fun x H1 => NK K H1 → Q x H1
theorem pe_nk (he : PE X e te) : PE X e (tNK X.K te) := ⟨fun pins s σ H Q I h => thn (he.run pins s σ H _ I h) fun u s1 ⟨x, H1, I1, r, q⟩ => ⟨x, H1, I1, r, q (nk_of I1)⟩⟩
def isLNL : D → Bool
  | .list es => noLA es && decide (es.length < 90000)
  | _ => false
def sForApp (i : Nat) (fe : DE) : DS := fun sd μ => if μ.all cellNL = true ∧ i < sd.length then match fe (smallS sd) μ with
  | .ok (.list ds) μ' => if μ'.all cellNL = true ∧ ds.all isLNL = true ∧ ds.length < 1000 then .ok (.next (sd.set i none)) μ' else .bad
  | _ => .bad
  else .bad
theorem ne_list {K : Frag} {w : Wd} {μ : Mu} {p q : Addr} {vs us : List V} {ds es : List D} (S : Sim K g w μ) (nk : NK K w.H) (hp : w.F p = some (.lst vs)) (ra : RpA K w.as w.F vs ds) (hq : w.F q = some (.lst us)) (rb : RpA K w.as w.F us es) (hd : ds.all isLNL = true) (hn : ds ≠ []) (he : noLA es = true) : p ≠ q := fun e => by
  subst e
  rw [hp] at hq
  cases hq
  match ds, vs, ra, es, rb, hd, hn, he with
  | d :: ds, v :: vs, .cons r _, e0 :: es, .cons r0 _, hd, _, he =>
    rw [List.all_cons, Bool.and_eq_true] at hd
    have he : noL e0 = true ∧ noLA es = true := by simpa [noLA] using he
    cases d with
    | list xs =>
      obtain ⟨b, zs, rfl, hb, _⟩ := Rp.lstV r
      cases r0 with
      | lst _ _ => simp [noL] at he
      | scr _ _ => simp [noL] at he
      | tok h =>
        rw [S.notF (List.mem_of_getElem? h)] at hb
        cases hb
      | tup h _ =>
        rcases h with (h | ⟨ob, h⟩) | ⟨ob, its, n, hk, hc, _⟩
        · rw [hb] at h; cases h
        · rw [hb] at h; cases h
        · exact nk b zs ob (S.sub _ _ hb) hk hc
    | _ => simp [isLNL] at hd
theorem s_forApp {i : Nat} {y : Str} {py py2 apos cpos p1 epos : Pos} {j : Nat} (hN : X.N.Nodup) (hp : PassesOwn (model X.prog X.w) X.A X.env X.xe) (ho : PED X g W o te fe) (hy : PED X g W (.Name y py2) (tVar i) (dVar i)) (hi : X.N[i]? = some y := by rfl) (hx : Loc X.env.scope y := by first | exact Or.inl rfl | exact Or.inr rfl)
    (hf : X.fn y = true ∨ X.env.scope.names.lookup y = some .local := by first | exact .inl rfl | exact .inr rfl)
    (bm : PE X (.Name y py2) (tVar i) → PA X [.Constant .none j p1] (tCons (tC .non) tNil) → PE X (.Call (.Attribute (.Name y py2) "append" apos) [.Constant .none j p1] [] cpos) (tBM X.K "list" rAppend (tVar i) (tCons (tC .non) tNil)) := by exact fun ho ha => pe_bm PySem.F.plainAttrs_list PySem.F.slot_list_append PySem.F.type_list_append mt_append ho ha)
    (hst : starEach [.Constant .none j p1] X.env = (false, eval (.Constant .none j p1) X.env) :: starEach [] X.env := by rfl) (hs : swapsWith (.Call (.Attribute (.Name y py2) "append" apos) [.Constant .none j p1] [] cpos) none epos.line X.env = pure false := by rfl)
    (hc : X.calm = true := by rfl) (hfo : ∀ x, foldedSetIterable o X.env x = pure x := by intro _; rfl) :
    PSD X g W (.For (.Name y py) o [.Expr (.Call (.Attribute (.Name y py2) "append" apos) [.Constant .none j p1] [] cpos) epos] [] pos) (tFor (iList X.K (tNK X.K te)) (gName i) (tDrop (tBM X.K "list" rAppend (tVar i) (tCons (tC .non) tNil)))) (sForApp i fe) := by
  refine ⟨ps_for hp hc (pi_list (pe_nk ho.pe)) (pg_name hN hi hx hf) (pss_one (ps_expr (bm hy.pe (pa_cons pe_non pa_nil hst)) hs)) hfo, fun w0 sd μ w σ l SS S E q => ?_⟩
  unfold sForApp at q
  split at q
  · rename_i hcc
    have z := ho.ev w0.H (smallS sd) μ w.small σ SS.small (S.small hcc.1)
    split at q
    · rename_i ds μ' e1
      rw [e1] at z
      split at q
      · rename_i h2
        refine z _ fun w' x l' S' r nk => ?_
        obtain ⟨p, vs, rfl, hpF, ra⟩ := Rp.lstV r
        refine ⟨p, rfl, ⟨vs, sqL_of (S'.sub _ _ hpF)⟩, ?_⟩
        have hl := ra.length
        refine ⟨fun k m σ' H => m = ds.length - k ∧ k ≤ ds.length ∧ H p = some (.lst vs) ∧ (∀ b, H b = w'.H b ∨ ∃ xs ys, w'.F b = some (.lst xs) ∧ H b = some (.lst ys) ∧ ys.length ≤ xs.length + k) ∧ σ'.length = σ.length ∧ ∀ n, n ≠ i → σ'[n]? = σ[n]?, ⟨ds.length, by simp, Nat.zero_le _, S'.sub _ _ hpF, fun b => .inl rfl, rfl, fun _ _ => rfl⟩, ?_⟩
        rintro k m σ' H ⟨rfl, hle, hHp, hw, hsl, hso⟩
        by_cases hlt : k < ds.length
        · have hkv : k < vs.length := by omega
          have hne : ds ≠ [] := fun e => by rw [e] at hlt; cases hlt
          refine .inr ⟨⟨vs, vs[k], sqL_of hHp, List.getElem?_eq_getElem hkv⟩, fun σ2 H2 => ∃ k', k' = k + 1 ∧ k' ≤ ds.length ∧ H2 p = some (.lst vs) ∧ (∀ b, H2 b = w'.H b ∨ ∃ xs ys, w'.F b = some (.lst xs) ∧ H2 b = some (.lst ys) ∧ ys.length ≤ xs.length + k') ∧ σ2.length = σ.length ∧ ∀ n, n ≠ i → σ2[n]? = σ[n]?, ?_, ?_⟩
          · rintro σ2 H2 ⟨k', rfl, h3, h4, h5, h6, h7⟩
            exact ⟨ds.length - (k + 1), by omega, rfl, h3, h4, h5, h6, h7⟩
          · rintro x H' ⟨rfl, hx'⟩
            have hxv := hx' vs (sqL_of hHp)
            obtain ⟨v, hv, rv⟩ := ra.get (List.getElem?_eq_getElem hlt)
            rw [hxv] at hv
            cases hv
            have hd := List.all_eq_true.mp h2.2.1 _ (List.getElem_mem hlt)
            generalize ds[k] = dk at hd rv
            cases dk with
            | list es =>
              have hd : noLA es = true ∧ es.length < 90000 := by simpa [isLNL] using hd
              obtain ⟨b, us, rfl, hb, rb⟩ := Rp.lstV rv
              have hne2 := ne_list S' nk hpF ra hb rb h2.2.1 hne hd.1
              have hs2 : (σ'.set i (some (V.ref b)))[i]? = some (some (V.ref b)) := List.getElem?_set_self (by rw [hsl, SS.len]; exact hcc.2)
              have hHb : ∃ ys, H' b = some (.lst ys) ∧ ys.length ≤ us.length + k := by
                rcases hw b with h | ⟨xs, ys, h3, h4, h5⟩
                · exact ⟨us, h.trans (S'.sub _ _ hb), by omega⟩
                · rw [hb] at h3
                  cases h3
                  exact ⟨ys, h4, h5⟩
              obtain ⟨ys, hy1, hy2⟩ := hHb
              have hul := rb.length
              refine ⟨.ref b, hs2, isL hy1, b, ys, .non, rfl, rfl, hy1, sizeLt (by omega), k + 1, rfl, hlt, by rw [upd_ne hne2]; exact hHp, fun c => ?_, by rw [List.length_set]; exact hsl, fun n hn => by rw [List.getElem?_set_ne (Ne.symm hn)]; exact hso n hn⟩
              by_cases hcb : c = b
              · subst hcb
                exact .inr ⟨us, ys ++ [.non], hb, upd_same, by rw [List.length_append, List.length_singleton]; omega⟩
              · rw [upd_ne hcb]
                rcases hw c with h | ⟨xs, zs, h3, h4, h5⟩
                · exact .inl h
                · exact .inr ⟨xs, zs, h3, h4, by omega⟩
            | _ => simp [isLNL] at hd
        · have e : k = ds.length := by omega
          refine .inl ⟨⟨vs, sqL_of hHp, by omega⟩, ?_⟩
          obtain ⟨k1, k2⟩ := back (H := H) S l' S' h2.1 fun b => by
            rcases hw b with h | ⟨xs, ys, h3, h4, _⟩
            · exact .inl h
            · exact .inr ⟨xs, ys, h3, h4⟩
          have SS2 := SS.le k1
          refine q ⟨w'.as, mergeF w.F w'.F, H⟩ σ' (l.trans k1) k1.wk ⟨by rw [List.length_set, hsl]; exact SS.len, fun n s en => ?_, fun n n2 xs ys a en en2 ea ea2 => ?_⟩ k2
          · rcases get_set en with ⟨_, e', _⟩ | ⟨hn, en⟩
            · cases e'
            · obtain ⟨x, hx, rx⟩ := SS2.at_ n s en
              exact ⟨x, by rw [hso n (Ne.symm hn)]; exact hx, rx⟩
          · rcases get_set en with ⟨_, e', _⟩ | ⟨hn, en⟩
            · cases e'
            · rcases get_set en2 with ⟨_, e', _⟩ | ⟨hn2, en2⟩
              · cases e'
              · rw [hso n (Ne.symm hn)] at ea
                rw [hso n2 (Ne.symm hn2)] at ea2
                exact SS2.sep n n2 xs ys a en en2 ea ea2
      · exact q.elim
    · exact q.elim
  · exact q.elim
end
end DL

set_option maxHeartbeats 4000000
/-! OK_k14 (printed by gen.py ok k14): each def of the row does what its denotation says. -/
namespace OL.K14
open PySem PySem.Spec PyProof.Rows L2 DL OL
def top (i : Nat) : Stmt := PySem.Challenge.pw_othersloss_k14_whole_repeated_calls.main.body.getD i (.Pass ⟨0, 0, 0, 0⟩)
def mth (i j : Nat) : Stmt := match top i with
  | .ClassDef _ _ _ b _ _ _ _ _ _ _ => b.getD j (.Pass ⟨0, 0, 0, 0⟩)
  | _ => .Pass ⟨0, 0, 0, 0⟩
-- BAD _wall stmt pass
abbrev st_is_integer : Stmt := top 11
theorem ok_is_integer {P : Program} {w : World} {K : Frag} {mg : Str → Option Value} {base : Heap} {g : G} {f : Addr} {fd : FuncData} (F : FunD K "is_integer" "is_integer" (defArgs st_is_integer) (defBody st_is_integer) (defScope st_is_integer) [] [] f fd) (B : Blt mg) (hm : mg "is_integer" = some (.ref f)) :
    FnD P w K mg base g "is_integer" 1 3 F_is_integer := by
  have S : FnScope ["value", "low", "high"] ["value", "low", "high"] (defScope st_is_integer) := ⟨rfl, rfl, rfl, by decide +kernel, rfl, by decide +kernel, by decide +kernel⟩
  have nd := S.nd
  exact fn_made ["value", "low", "high"] ["value", "low", "high"] 0 3 D_is_integer F hm S rfl rfl (F.bindsN fun _ _ _ _ _ _ us hl => match us, hl with | [_, _, _], _ => rfl) fun cdv A outer s H E hr => by
    have hu := room_un hr
    exact ⟨_, (b_one (s_ret (d_and (d_isi (d_var 0) B.isinstance B.int DL.boot_int) (d_and (d_not (d_isi (d_var 0) B.isinstance B.bool DL.boot_bool)) (d_one (d_chain (d_var 1) (d_var 0) (d_var 2)))))))⟩

abbrev st_things_in : Stmt := top 12
theorem ok_things_in {P : Program} {w : World} {K : Frag} {mg : Str → Option Value} {base : Heap} {g : G} {f : Addr} {fd : FuncData} {v_SIZES : V} (F : FunD K "things_in" "things_in" (defArgs st_things_in) (defBody st_things_in) (defScope st_things_in) [] [] f fd) (B : Blt mg) (hm : mg "things_in" = some (.ref f)) (c_SIZES : Gc K mg "SIZES" v_SIZES k_SIZES) :
    FnD P w K mg base g "things_in" 1 1 F_things_in := by
  have S : FnScope ["some", "thing"] ["some"] (defScope st_things_in) := ⟨rfl, rfl, rfl, by decide +kernel, rfl, by decide +kernel, by decide +kernel⟩
  have nd := S.nd
  exact fn_made ["some", "thing"] ["some"] 0 1 D_things_in F hm S rfl rfl (F.bindsN fun _ _ _ _ _ _ us hl => match us, hl with | [_], _ => rfl) fun cdv A outer s H E hr => by
    have hu := room_un hr
    exact ⟨_, (b_one (s_ret (d_share (l_lc [("thing", 1)] nd (i_rg1 d_int B.range) (blkOk_by (by kernel_rfl)) (fun _ _ _ _ _ => (g_name nd)) (fun _ _ _ _ _ => (ts_one (t_eq hu (d_mod (d_div (d_var 0) (d_div (d_ix (d_glob c_SIZES) (d_var 1)) d_int)) d_int) d_int))) (fun _ _ _ _ _ => (d_var 1))))))⟩

abbrev st_rises : Stmt := top 13
theorem ok_rises {P : Program} {w : World} {K : Frag} {mg : Str → Option Value} {base : Heap} {g : G} {f : Addr} {fd : FuncData} {v_SIZES : V} (F : FunD K "rises" "rises" (defArgs st_rises) (defBody st_rises) (defScope st_rises) [] [] f fd) (B : Blt mg) (hm : mg "rises" = some (.ref f)) (h_things_in : FnD P w K mg base g "things_in" 1 1 F_things_in) (c_SIZES : Gc K mg "SIZES" v_SIZES k_SIZES) :
    FnD P w K mg base g "rises" 2 1 F_rises := by
  have S : FnScope ["value", "some", "thing", "power"] ["value"] (defScope st_rises) := ⟨rfl, rfl, rfl, by decide +kernel, rfl, by decide +kernel, by decide +kernel⟩
  have nd := S.nd
  exact fn_made ["value", "some", "thing", "power"] ["value"] 1 1 D_rises F hm S rfl rfl (F.bindsN fun _ _ _ _ _ _ us hl => match us, hl with | [_], _ => rfl) fun cdv A outer s H E hr => by
    have hu := room_un hr
    exact ⟨_, (b_cons (s_for PassesOwn.leaving (i_rg1 (q_len B (a_cons (d_var 0) a_nil)) B.range) (g_name nd)
    (b_one (s_for PassesOwn.leaving (i_rg1 d_int B.range) (g_name nd)
    (b_cons (s_asg nd (x_v (d_div (d_ix (d_glob c_SIZES) (d_var 2)) d_int)))
    (b_one (s_if (t_w (w_and (t_lt (d_var 3) (q_len B (a_cons (d_var 0) a_nil))) (w_and (t_notIn hu (d_var 2) (d_call h_things_in (hr.mono (by decide)) (takes_of rfl rfl rfl rfl) (a_cons (d_var 1) a_nil))) (w_and1 (t_gt (d_ix (d_var 0) (d_var 1)) (d_ix (d_var 0) (d_add (d_var 1) (d_var 3)))))))) (b_one (s_ret d_bool)) b_nil))))))
    (b_one (s_ret d_bool)))⟩

abbrev st_bids_for : Stmt := top 14
theorem ok_bids_for {P : Program} {w : World} {K : Frag} {mg : Str → Option Value} {base : Heap} {g : G} {f : Addr} {fd : FuncData} (F : FunD K "bids_for" "bids_for" (defArgs st_bids_for) (defBody st_bids_for) (defScope st_bids_for) [] [] f fd) (B : Blt mg) (hm : mg "bids_for" = some (.ref f)) (h_is_integer : FnD P w K mg base g "is_integer" 1 3 F_is_integer) (h_rises : FnD P w K mg base g "rises" 2 1 F_rises) :
    FnD P w K mg base g "bids_for" 3 2 F_bids_for := by
  have S : FnScope ["value", "size", "one"] ["value", "size"] (defScope st_bids_for) := ⟨rfl, rfl, rfl, by decide +kernel, rfl, by decide +kernel, by decide +kernel⟩
  have nd := S.nd
  exact fn_made ["value", "size", "one"] ["value", "size"] 2 2 D_bids_for F hm S rfl rfl (F.bindsN fun _ _ _ _ _ _ us hl => match us, hl with | [_, _], _ => rfl) fun cdv A outer s H E hr => by
    have hu := room_un hr
    exact ⟨_, (b_cons (s_if (t_w (w_or (t_not (t_val (d_isi (d_var 0) B.isinstance B.tuple DL.boot_tuple))) (w_or (t_ne hu (q_len B (a_cons (d_var 0) a_nil)) (d_var 1)) (w_or1 (t_not (t_val (q_all B (a_cons (d_share (l_lc [("one", 2)] nd (i_any (d_var 0)) (blkOk_by (by kernel_rfl)) (fun _ _ _ _ _ => (g_name nd)) (fun _ _ _ _ _ => ts_nil) (fun _ _ _ _ _ => (d_call h_is_integer (hr.mono (by decide)) takes0 (a_cons (d_var 2) (a_cons d_int (a_cons d_int a_nil))))))) a_nil)))))))) (b_one (s_ret d_bool)) b_nil)
    (b_one (s_ret (d_and (d_eq hu (d_ix (d_var 0) d_int) d_int) (d_one (d_call h_rises (hr.mono (by decide)) (takes_of rfl rfl rfl rfl) (a_cons (d_var 0) a_nil)))))))⟩

abbrev st_check_things : Stmt := top 15
theorem ok_check_things {P : Program} {w : World} {K : Frag} {mg : Str → Option Value} {base : Heap} {g : G} {f : Addr} {fd : FuncData} (F : FunD K "check_things" "check_things" (defArgs st_check_things) (defBody st_check_things) (defScope st_check_things) [] [] f fd) (B : Blt mg) (hm : mg "check_things" = some (.ref f)) (h_is_integer : FnD P w K mg base g "is_integer" 1 3 F_is_integer) (x_InvalidNumber : ExD K mg g "InvalidNumber" e_InvalidNumber) :
    FnD P w K mg base g "check_things" 2 1 F_check_things := by
  have S : FnScope ["things"] ["things"] (defScope st_check_things) := ⟨rfl, rfl, rfl, by decide +kernel, rfl, by decide +kernel, by decide +kernel⟩
  have nd := S.nd
  exact fn_made ["things"] ["things"] 1 1 D_check_things F hm S rfl rfl (F.bindsN fun _ _ _ _ _ _ us hl => match us, hl with | [_], _ => rfl) fun cdv A outer s H E hr => by
    have hu := room_un hr
    exact ⟨_, (b_one (s_if (t_not (t_val (d_call h_is_integer (hr.mono (by decide)) (takes_of rfl rfl rfl rfl) (a_cons (d_var 0) (a_cons d_int (a_cons d_int a_nil)))))) (b_one (s_raiseD x_InvalidNumber (takes_of rfl rfl rfl rfl))) b_nil))⟩

abbrev st_is_room : Stmt := top 16
theorem ok_is_room {P : Program} {w : World} {K : Frag} {mg : Str → Option Value} {base : Heap} {g : G} {f : Addr} {fd : FuncData} {v_MOST : V} {v_SIZES : V} (F : FunD K "is_room" "is_room" (defArgs st_is_room) (defBody st_is_room) (defScope st_is_room) [] [] f fd) (B : Blt mg) (hm : mg "is_room" = some (.ref f)) (h_bids_for : FnD P w K mg base g "bids_for" 3 2 F_bids_for) (c_MOST : Gc K mg "MOST" v_MOST k_MOST) (c_SIZES : Gc K mg "SIZES" v_SIZES k_SIZES) :
    FnD P w K mg base g "is_room" 4 1 F_is_room := by
  have S : FnScope ["value", "size", "bid"] ["value"] (defScope st_is_room) := ⟨rfl, rfl, rfl, by decide +kernel, rfl, by decide +kernel, by decide +kernel⟩
  have nd := S.nd
  exact fn_made ["value", "size", "bid"] ["value"] 3 1 D_is_room F hm S rfl rfl (F.bindsN fun _ _ _ _ _ _ us hl => match us, hl with | [_], _ => rfl) fun cdv A outer s H E hr => by
    have hu := room_un hr
    exact ⟨_, (b_cons (s_if (t_w (w_or (t_not (t_val (d_isi (d_var 0) B.isinstance B.tuple DL.boot_tuple))) (w_or1 (t_not (t_chain d_int (q_len B (a_cons (d_var 0) a_nil)) (d_glob c_MOST)))))) (b_one (s_ret d_bool)) b_nil)
    (b_cons (s_for PassesOwn.leaving (i_any (d_glob c_SIZES)) (g_name nd)
    (b_one (s_if (t_val (q_all B (a_cons (d_share (l_lc [("bid", 2)] nd (i_any (d_var 0)) (blkOk_by (by kernel_rfl)) (fun _ _ _ _ _ => (g_name nd)) (fun _ _ _ _ _ => ts_nil) (fun _ _ _ _ _ => (d_call h_bids_for (hr.mono (by decide)) takes0 (a_cons (d_var 2) (a_cons (d_var 1) a_nil)))))) a_nil))) (b_one (s_ret d_bool)) b_nil)))
    (b_one (s_ret d_bool))))⟩

abbrev st_check_room : Stmt := top 17
theorem ok_check_room {P : Program} {w : World} {K : Frag} {mg : Str → Option Value} {base : Heap} {g : G} {f : Addr} {fd : FuncData} (F : FunD K "check_room" "check_room" (defArgs st_check_room) (defBody st_check_room) (defScope st_check_room) [] [] f fd) (B : Blt mg) (hm : mg "check_room" = some (.ref f)) (h_is_room : FnD P w K mg base g "is_room" 4 1 F_is_room) (x_InvalidRoom : ExD K mg g "InvalidRoom" e_InvalidRoom) :
    FnD P w K mg base g "check_room" 5 1 F_check_room := by
  have S : FnScope ["room"] ["room"] (defScope st_check_room) := ⟨rfl, rfl, rfl, by decide +kernel, rfl, by decide +kernel, by decide +kernel⟩
  have nd := S.nd
  exact fn_made ["room"] ["room"] 4 1 D_check_room F hm S rfl rfl (F.bindsN fun _ _ _ _ _ _ us hl => match us, hl with | [_], _ => rfl) fun cdv A outer s H E hr => by
    have hu := room_un hr
    exact ⟨_, (b_one (s_if (t_not (t_val (d_call h_is_room (hr.mono (by decide)) (takes_of rfl rfl rfl rfl) (a_cons (d_var 0) a_nil)))) (b_one (s_raiseD x_InvalidRoom (takes_of rfl rfl rfl rfl))) b_nil))⟩

abbrev st_allotments : Stmt := top 19
theorem ok_allotments {P : Program} {w : World} {K : Frag} {mg : Str → Option Value} {base : Heap} {g : G} {f : Addr} {fd : FuncData} (F : FunD K "allotments" "allotments" (defArgs st_allotments) (defBody st_allotments) (defScope st_allotments) [] [] f fd) (B : Blt mg) (hm : mg "allotments" = some (.ref f)) :
    FnD P w K mg base g "allotments" 1 2 F_allotments := by
  have S : FnScope ["room", "group", "some", "power", "longer", "allotment", "bidder"] ["room", "group"] (defScope st_allotments) := ⟨rfl, rfl, rfl, by decide +kernel, rfl, by decide +kernel, by decide +kernel⟩
  have nd := S.nd
  exact fn_made ["room", "group", "some", "power", "longer", "allotment", "bidder"] ["room", "group"] 0 2 D_allotments F hm S rfl rfl (F.bindsN fun _ _ _ _ _ _ us hl => match us, hl with | [_, _], _ => rfl) fun cdv A outer s H E hr => by
    have hu := room_un hr
    exact ⟨_, (b_cons (s_asg nd (x_v (d_share (l_lst (a_cons (d_mul (d_tup (a_cons d_int a_nil)) (q_len B (a_cons (d_var 0) a_nil))) a_nil)))))
    (b_cons (s_asg nd (x_v d_int))
    (b_cons (s_while PassesOwn.leaving (t_lt (d_var 3) (q_len B (a_cons (d_ix (d_var 0) d_int) a_nil)))
    (b_cons (s_asg nd (x_o (l_list (d_var 2) B.list)))
    (b_cons (s_for PassesOwn.leaving (i_any (d_var 2)) (g_name nd)
    (b_one (s_for PassesOwn.leaving (i_any (d_var 1)) (g_name nd)
    (b_one (s_app (d_var 4) (d_add (d_add (d_sl (d_var 5) o_none (o_some (d_var 6))) (d_tup (a_cons (d_add (d_ix (d_var 5) (d_var 6)) (d_var 3)) a_nil))) (d_sl (d_var 5) (o_some (d_add (d_var 6) d_int)) o_none)))))))
    (b_freeze (b_cons (s_asg nd (x_v (d_var 4)))
    (b_one (s_asg nd (x_v (d_mul d_int (d_var 3))))))))))
    (b_one (s_ret (q_sorted hu B (a_cons (d_var 2) a_nil)))))))⟩

abbrev st_total_of : Stmt := top 20
theorem ok_total_of {P : Program} {w : World} {K : Frag} {mg : Str → Option Value} {base : Heap} {g : G} {f : Addr} {fd : FuncData} (F : FunD K "total_of" "total_of" (defArgs st_total_of) (defBody st_total_of) (defScope st_total_of) [] [] f fd) (B : Blt mg) (hm : mg "total_of" = some (.ref f)) :
    FnD P w K mg base g "total_of" 1 2 F_total_of := by
  have S : FnScope ["room", "allotment", "bid", "some"] ["room", "allotment"] (defScope st_total_of) := ⟨rfl, rfl, rfl, by decide +kernel, rfl, by decide +kernel, by decide +kernel⟩
  have nd := S.nd
  exact fn_made ["room", "allotment", "bid", "some"] ["room", "allotment"] 0 2 D_total_of F hm S rfl rfl (F.bindsN fun _ _ _ _ _ _ us hl => match us, hl with | [_, _], _ => rfl) fun cdv A outer s H E hr => by
    have hu := room_un hr
    exact ⟨_, (b_one (s_ret (q_sum B (a_cons (d_share (l_lc [("bid", 2), ("some", 3)] nd (i_zip2 (d_var 0) (d_var 1) B.zip) (blkOk_by (by kernel_rfl)) (fun _ _ _ _ _ => (g_two (g_name nd) (g_name nd))) (fun _ _ _ _ _ => ts_nil) (fun _ _ _ _ _ => (d_ix (d_var 2) (d_var 3))))) a_nil))))⟩

abbrev st_best_for : Stmt := top 21
theorem ok_best_for {P : Program} {w : World} {K : Frag} {mg : Str → Option Value} {base : Heap} {g : G} {f : Addr} {fd : FuncData} (F : FunD K "best_for" "best_for" (defArgs st_best_for) (defBody st_best_for) (defScope st_best_for) [] [] f fd) (B : Blt mg) (hm : mg "best_for" = some (.ref f)) (h_allotments : FnD P w K mg base g "allotments" 1 2 F_allotments) (h_total_of : FnD P w K mg base g "total_of" 1 2 F_total_of) :
    FnD P w K mg base g "best_for" 2 2 F_best_for := by
  have S : FnScope ["room", "group", "best", "allotment", "total_here"] ["room", "group"] (defScope st_best_for) := ⟨rfl, rfl, rfl, by decide +kernel, rfl, by decide +kernel, by decide +kernel⟩
  have nd := S.nd
  exact fn_made ["room", "group", "best", "allotment", "total_here"] ["room", "group"] 1 2 D_best_for F hm S rfl rfl (F.bindsN fun _ _ _ _ _ _ us hl => match us, hl with | [_, _], _ => rfl) fun cdv A outer s H E hr => by
    have hu := room_un hr
    exact ⟨_, (b_cons (s_asg nd (x_v d_none))
    (b_cons (s_for PassesOwn.leaving (i_any (d_call h_allotments (hr.mono (by decide)) (takes_of rfl rfl rfl rfl) (a_cons (d_var 0) (a_cons (d_var 1) a_nil)))) (g_name nd)
    (b_cons (s_asg nd (x_v (d_call h_total_of (hr.mono (by decide)) (takes_of rfl rfl rfl rfl) (a_cons (d_var 0) (a_cons (d_var 3) a_nil)))))
    (b_one (s_if (t_w (w_or (t_is (d_var 2) d_none) (w_or1 (t_gt (d_var 4) (d_ix (d_var 2) d_int))))) (b_one (s_asg nd (x_v (d_tup (a_cons (d_var 4) (a_cons (d_var 3) a_nil)))))) b_nil))))
    (b_one (s_ret (d_var 2)))))⟩

abbrev st_everyone : Stmt := top 22
theorem ok_everyone {P : Program} {w : World} {K : Frag} {mg : Str → Option Value} {base : Heap} {g : G} {f : Addr} {fd : FuncData} (F : FunD K "everyone" "everyone" (defArgs st_everyone) (defBody st_everyone) (defScope st_everyone) [] [] f fd) (B : Blt mg) (hm : mg "everyone" = some (.ref f)) :
    FnD P w K mg base g "everyone" 1 1 F_everyone := by
  have S : FnScope ["room"] ["room"] (defScope st_everyone) := ⟨rfl, rfl, rfl, by decide +kernel, rfl, by decide +kernel, by decide +kernel⟩
  have nd := S.nd
  exact fn_made ["room"] ["room"] 0 1 D_everyone F hm S rfl rfl (F.bindsN fun _ _ _ _ _ _ us hl => match us, hl with | [_], _ => rfl) fun cdv A outer s H E hr => by
    have hu := room_un hr
    exact ⟨_, (b_one (s_ret (d_share (l_listRg (q_len B (a_cons (d_var 0) a_nil)) B.list B.range))))⟩

abbrev st_best_allotment : Stmt := top 23
theorem ok_best_allotment {P : Program} {w : World} {K : Frag} {mg : Str → Option Value} {base : Heap} {g : G} {f : Addr} {fd : FuncData} (F : FunD K "best_allotment" "best_allotment" (defArgs st_best_allotment) (defBody st_best_allotment) (defScope st_best_allotment) [] [] f fd) (B : Blt mg) (hm : mg "best_allotment" = some (.ref f)) (h_check_room : FnD P w K mg base g "check_room" 5 1 F_check_room) (h_best_for : FnD P w K mg base g "best_for" 2 2 F_best_for) (h_everyone : FnD P w K mg base g "everyone" 1 1 F_everyone) :
    FnD P w K mg base g "best_allotment" 6 1 F_best_allotment := by
  have S : FnScope ["room"] ["room"] (defScope st_best_allotment) := ⟨rfl, rfl, rfl, by decide +kernel, rfl, by decide +kernel, by decide +kernel⟩
  have nd := S.nd
  exact fn_made ["room"] ["room"] 5 1 D_best_allotment F hm S rfl rfl (F.bindsN fun _ _ _ _ _ _ us hl => match us, hl with | [_], _ => rfl) fun cdv A outer s H E hr => by
    have hu := room_un hr
    exact ⟨_, (b_cons (s_expr (d_call h_check_room (hr.mono (by decide)) (takes_of rfl rfl rfl rfl) (a_cons (d_var 0) a_nil)))
    (b_one (s_ret (d_ix (d_call h_best_for (hr.mono (by decide)) (takes_of rfl rfl rfl rfl) (a_cons (d_var 0) (a_cons (d_call h_everyone (hr.mono (by decide)) (takes_of rfl rfl rfl rfl) (a_cons (d_var 0) a_nil)) a_nil))) d_int))))⟩

abbrev st_outcome : Stmt := top 25
theorem ok_outcome {P : Program} {w : World} {K : Frag} {mg : Str → Option Value} {base : Heap} {g : G} {f : Addr} {fd : FuncData} (F : FunD K "outcome" "outcome" (defArgs st_outcome) (defBody st_outcome) (defScope st_outcome) [] [] f fd) (B : Blt mg) (hm : mg "outcome" = some (.ref f)) (h_best_for : FnD P w K mg base g "best_for" 2 2 F_best_for) (h_everyone : FnD P w K mg base g "everyone" 1 1 F_everyone) :
    FnD P w K mg base g "outcome" 3 1 F_outcome := by
  have S : FnScope ["room", "best", "allotment", "found", "bidder", "some", "others", "other"] ["room"] (defScope st_outcome) := ⟨rfl, rfl, rfl, by decide +kernel, rfl, by decide +kernel, by decide +kernel⟩
  have nd := S.nd
  exact fn_made ["room", "best", "allotment", "found", "bidder", "some", "others", "other"] ["room"] 2 1 D_outcome F hm S rfl rfl (F.bindsN fun _ _ _ _ _ _ us hl => match us, hl with | [_], _ => rfl) fun cdv A outer s H E hr => by
    have hu := room_un hr
    exact ⟨_, (b_cons (s_unp (d_call h_best_for (hr.mono (by decide)) (takes_of rfl rfl rfl rfl) (a_cons (d_var 0) (a_cons (d_call h_everyone (hr.mono (by decide)) (takes_of rfl rfl rfl rfl) (a_cons (d_var 0) a_nil)) a_nil))) (g_two (g_name nd) (g_name nd)))
    (b_cons (s_asg nd (x_o (l_lst a_nil)))
    (b_cons (s_for PassesOwn.leaving (i_enum (d_var 2) B.enumerate) (g_two (g_name nd) (g_name nd))
    (b_cons (s_asgLc [("other", 7)] nd (i_any (d_call h_everyone (hr.mono (by decide)) (takes_of rfl rfl rfl rfl) (a_cons (d_var 0) a_nil))) (blkOk_by (by kernel_rfl)) (fun _ _ _ _ _ => (g_name nd)) (fun _ _ _ _ _ => (ts_one (t_ne hu (d_var 7) (d_var 4)))) (fun _ _ _ _ _ => (d_var 7)))
    (b_freeze (b_one (s_app (d_var 3) (d_sub (d_ix (d_call h_best_for (hr.mono (by decide)) (takes_of rfl rfl rfl rfl) (a_cons (d_var 0) (a_cons (d_var 6) a_nil))) d_int) (d_sub (d_var 1) (d_ix (d_ix (d_var 0) (d_var 4)) (d_var 5)))))))))
    (b_freeze (b_one (s_ret (d_tup (a_cons (d_var 2) (a_cons (d_var 3) a_nil)))))))))⟩

abbrev st_payments : Stmt := top 26
theorem ok_payments {P : Program} {w : World} {K : Frag} {mg : Str → Option Value} {base : Heap} {g : G} {f : Addr} {fd : FuncData} (F : FunD K "payments" "payments" (defArgs st_payments) (defBody st_payments) (defScope st_payments) [] [] f fd) (B : Blt mg) (hm : mg "payments" = some (.ref f)) (h_check_room : FnD P w K mg base g "check_room" 5 1 F_check_room) (h_outcome : FnD P w K mg base g "outcome" 3 1 F_outcome) :
    FnD P w K mg base g "payments" 6 1 F_payments := by
  have S : FnScope ["room"] ["room"] (defScope st_payments) := ⟨rfl, rfl, rfl, by decide +kernel, rfl, by decide +kernel, by decide +kernel⟩
  have nd := S.nd
  exact fn_made ["room"] ["room"] 5 1 D_payments F hm S rfl rfl (F.bindsN fun _ _ _ _ _ _ us hl => match us, hl with | [_], _ => rfl) fun cdv A outer s H E hr => by
    have hu := room_un hr
    exact ⟨_, (b_cons (s_expr (d_call h_check_room (hr.mono (by decide)) (takes_of rfl rfl rfl rfl) (a_cons (d_var 0) a_nil)))
    (b_one (s_ret (d_ix (d_call h_outcome (hr.mono (by decide)) (takes_of rfl rfl rfl rfl) (a_cons (d_var 0) a_nil)) d_int))))⟩

abbrev st_kept_list : Stmt := top 27
theorem ok_kept_list {P : Program} {w : World} {K : Frag} {mg : Str → Option Value} {base : Heap} {g : G} {f : Addr} {fd : FuncData} (F : FunD K "kept_list" "kept_list" (defArgs st_kept_list) (defBody st_kept_list) (defScope st_kept_list) [] [] f fd) (B : Blt mg) (hm : mg "kept_list" = some (.ref f)) (h_outcome : FnD P w K mg base g "outcome" 3 1 F_outcome) :
    FnD P w K mg base g "kept_list" 4 1 F_kept_list := by
  have S : FnScope ["room", "allotment", "paid", "bid", "some", "payment"] ["room"] (defScope st_kept_list) := ⟨rfl, rfl, rfl, by decide +kernel, rfl, by decide +kernel, by decide +kernel⟩
  have nd := S.nd
  exact fn_made ["room", "allotment", "paid", "bid", "some", "payment"] ["room"] 3 1 D_kept_list F hm S rfl rfl (F.bindsN fun _ _ _ _ _ _ us hl => match us, hl with | [_], _ => rfl) fun cdv A outer s H E hr => by
    have hu := room_un hr
    exact ⟨_, (b_cons (s_unp (d_call h_outcome (hr.mono (by decide)) (takes_of rfl rfl rfl rfl) (a_cons (d_var 0) a_nil)) (g_two (g_name nd) (g_name nd)))
    (b_one (s_ret (d_share (l_lc [("bid", 3), ("some", 4), ("payment", 5)] nd (i_zip3 (d_var 0) (d_var 1) (d_var 2) B.zip) (blkOk_by (by kernel_rfl)) (fun _ _ _ _ _ => (g_three (g_name nd) (g_name nd) (g_name nd))) (fun _ _ _ _ _ => ts_nil) (fun _ _ _ _ _ => (d_sub (d_ix (d_var 3) (d_var 4)) (d_var 5))))))))⟩

abbrev st_kept : Stmt := top 28
theorem ok_kept {P : Program} {w : World} {K : Frag} {mg : Str → Option Value} {base : Heap} {g : G} {f : Addr} {fd : FuncData} (F : FunD K "kept" "kept" (defArgs st_kept) (defBody st_kept) (defScope st_kept) [] [] f fd) (B : Blt mg) (hm : mg "kept" = some (.ref f)) (h_check_room : FnD P w K mg base g "check_room" 5 1 F_check_room) (h_kept_list : FnD P w K mg base g "kept_list" 4 1 F_kept_list) :
    FnD P w K mg base g "kept" 6 1 F_kept := by
  have S : FnScope ["room"] ["room"] (defScope st_kept) := ⟨rfl, rfl, rfl, by decide +kernel, rfl, by decide +kernel, by decide +kernel⟩
  have nd := S.nd
  exact fn_made ["room"] ["room"] 5 1 D_kept F hm S rfl rfl (F.bindsN fun _ _ _ _ _ _ us hl => match us, hl with | [_], _ => rfl) fun cdv A outer s H E hr => by
    have hu := room_un hr
    exact ⟨_, (b_cons (s_expr (d_call h_check_room (hr.mono (by decide)) (takes_of rfl rfl rfl rfl) (a_cons (d_var 0) a_nil)))
    (b_one (s_ret (d_call h_kept_list (hr.mono (by decide)) (takes_of rfl rfl rfl rfl) (a_cons (d_var 0) a_nil)))))⟩

abbrev st_gains : Stmt := top 30
theorem ok_gains {P : Program} {w : World} {K : Frag} {mg : Str → Option Value} {base : Heap} {g : G} {f : Addr} {fd : FuncData} (F : FunD K "gains" "gains" (defArgs st_gains) (defBody st_gains) (defScope st_gains) [] [] f fd) (B : Blt mg) (hm : mg "gains" = some (.ref f)) (h_kept_list : FnD P w K mg base g "kept_list" 4 1 F_kept_list) (h_best_for : FnD P w K mg base g "best_for" 2 2 F_best_for) (h_outcome : FnD P w K mg base g "outcome" 3 1 F_outcome) :
    FnD P w K mg base g "gains" 5 2 F_gains := by
  have S : FnScope ["room", "group", "keeps", "one"] ["room", "group"] (defScope st_gains) := ⟨rfl, rfl, rfl, by decide +kernel, rfl, by decide +kernel, by decide +kernel⟩
  have nd := S.nd
  exact fn_made ["room", "group", "keeps", "one"] ["room", "group"] 4 2 D_gains F hm S rfl rfl (F.bindsN fun _ _ _ _ _ _ us hl => match us, hl with | [_, _], _ => rfl) fun cdv A outer s H E hr => by
    have hu := room_un hr
    exact ⟨_, (b_cons (s_asg nd (x_v (d_call h_kept_list (hr.mono (by decide)) (takes_of rfl rfl rfl rfl) (a_cons (d_var 0) a_nil))))
    (b_one (s_ret (d_gt (d_ix (d_call h_best_for (hr.mono (by decide)) (takes_of rfl rfl rfl rfl) (a_cons (d_var 0) (a_cons (d_share (l_list (d_var 1) B.list)) a_nil))) d_int) (d_add (q_sum B (a_cons (d_ix (d_call h_outcome (hr.mono (by decide)) (takes_of rfl rfl rfl rfl) (a_cons (d_var 0) a_nil)) d_int) a_nil)) (q_sum B (a_cons (d_share (l_lc [("one", 3)] nd (i_any (d_var 1)) (blkOk_by (by kernel_rfl)) (fun _ _ _ _ _ => (g_name nd)) (fun _ _ _ _ _ => ts_nil) (fun _ _ _ _ _ => (d_ix (d_var 2) (d_var 3))))) a_nil)))))))⟩

abbrev st_group_list : Stmt := top 31
theorem ok_group_list {P : Program} {w : World} {K : Frag} {mg : Str → Option Value} {base : Heap} {g : G} {f : Addr} {fd : FuncData} (F : FunD K "group_list" "group_list" (defArgs st_group_list) (defBody st_group_list) (defScope st_group_list) [] [] f fd) (B : Blt mg) (hm : mg "group_list" = some (.ref f)) (h_everyone : FnD P w K mg base g "everyone" 1 1 F_everyone) (h_gains : FnD P w K mg base g "gains" 5 2 F_gains) :
    FnD P w K mg base g "group_list" 6 1 F_group_list := by
  have S : FnScope ["room", "some", "bidder", "group"] ["room"] (defScope st_group_list) := ⟨rfl, rfl, rfl, by decide +kernel, rfl, by decide +kernel, by decide +kernel⟩
  have nd := S.nd
  exact fn_made ["room", "some", "bidder", "group"] ["room"] 5 1 D_group_list F hm S rfl rfl (F.bindsN fun _ _ _ _ _ _ us hl => match us, hl with | [_], _ => rfl) fun cdv A outer s H E hr => by
    have hu := room_un hr
    exact ⟨_, (b_cons (s_asg nd (x_v (d_share (l_lst (a_cons (d_tup a_nil) a_nil)))))
    (b_cons (s_for PassesOwn.leaving (i_any (d_call h_everyone (hr.mono (by decide)) (takes_of rfl rfl rfl rfl) (a_cons (d_var 0) a_nil))) (g_name nd)
    (b_one (s_asg nd (x_v (d_add (d_var 1) (d_share (l_lc [("group", 3)] nd (i_any (d_var 1)) (blkOk_by (by kernel_rfl)) (fun _ _ _ _ _ => (g_name nd)) (fun _ _ _ _ _ => ts_nil) (fun _ _ _ _ _ => (d_add (d_var 3) (d_tup (a_cons (d_var 2) a_nil)))))))))))
    (b_one (s_ret (q_sorted hu B (a_cons (d_share (l_lc [("group", 3)] nd (i_any (d_var 1)) (blkOk_by (by kernel_rfl)) (fun _ _ _ _ _ => (g_name nd)) (fun _ _ _ _ _ => (ts_one (t_val (d_call h_gains (hr.mono (by decide)) takes0 (a_cons (d_var 0) (a_cons (d_var 3) a_nil)))))) (fun _ _ _ _ _ => (d_var 3)))) a_nil))))))⟩

abbrev st_objecting : Stmt := top 32
theorem ok_objecting {P : Program} {w : World} {K : Frag} {mg : Str → Option Value} {base : Heap} {g : G} {f : Addr} {fd : FuncData} (F : FunD K "objecting" "objecting" (defArgs st_objecting) (defBody st_objecting) (defScope st_objecting) [] [] f fd) (B : Blt mg) (hm : mg "objecting" = some (.ref f)) (h_check_room : FnD P w K mg base g "check_room" 5 1 F_check_room) (h_group_list : FnD P w K mg base g "group_list" 6 1 F_group_list) :
    FnD P w K mg base g "objecting" 7 1 F_objecting := by
  have S : FnScope ["room"] ["room"] (defScope st_objecting) := ⟨rfl, rfl, rfl, by decide +kernel, rfl, by decide +kernel, by decide +kernel⟩
  have nd := S.nd
  exact fn_made ["room"] ["room"] 6 1 D_objecting F hm S rfl rfl (F.bindsN fun _ _ _ _ _ _ us hl => match us, hl with | [_], _ => rfl) fun cdv A outer s H E hr => by
    have hu := room_un hr
    exact ⟨_, (b_cons (s_expr (d_call h_check_room (hr.mono (by decide)) (takes_of rfl rfl rfl rfl) (a_cons (d_var 0) a_nil)))
    (b_one (s_ret (d_call h_group_list (hr.mono (by decide)) (takes_of rfl rfl rfl rfl) (a_cons (d_var 0) a_nil)))))⟩

abbrev st_text_of : Stmt := top 34
theorem ok_text_of {P : Program} {w : World} {K : Frag} {mg : Str → Option Value} {base : Heap} {g : G} {f : Addr} {fd : FuncData} (F : FunD K "text_of" "text_of" (defArgs st_text_of) (defBody st_text_of) (defScope st_text_of) [] [] f fd) (B : Blt mg) (hm : mg "text_of" = some (.ref f)) :
    FnD P w K mg base g "text_of" 1 1 F_text_of := by
  have S : FnScope ["room", "bid", "worth"] ["room"] (defScope st_text_of) := ⟨rfl, rfl, rfl, by decide +kernel, rfl, by decide +kernel, by decide +kernel⟩
  have nd := S.nd
  exact fn_made ["room", "bid", "worth"] ["room"] 0 1 D_text_of F hm S rfl rfl (F.bindsN fun _ _ _ _ _ _ us hl => match us, hl with | [_], _ => rfl) fun cdv A outer s H E hr => by
    have hu := room_un hr
    exact ⟨_, (b_one (s_ret (d_join d_str (d_share (l_lc [("bid", 1)] nd (i_any (d_var 0)) (blkOk_by (by kernel_rfl)) (fun _ _ _ _ _ => (g_name nd)) (fun _ _ _ _ _ => ts_nil) (fun _ _ _ _ _ => (d_join d_str (d_share (l_lc [("worth", 2)] nd (i_any (d_var 1)) (blkOk_by (by kernel_rfl)) (fun _ _ _ _ _ => (g_name nd)) (fun _ _ _ _ _ => ts_nil) (fun _ _ _ _ _ => (d_str1 (d_var 2) B.str)))))))))))⟩

abbrev st_Hall___init__ : Stmt := mth 36 0
theorem ok_Hall___init__ {P : Program} {w : World} {K : Frag} {mg : Str → Option Value} {base : Heap} {g : G} {f : Addr} {fd : FuncData} (F : FunD K "__init__" "Hall.__init__" (defArgs st_Hall___init__) (defBody st_Hall___init__) (defScope st_Hall___init__) [] [] f fd) (B : Blt mg) (hg : mg "Hall" = some (.ref g.C)) (hm : Mk K g.C f) (h_check_things : FnD P w K mg base g "check_things" 2 1 F_check_things) (k_Hall : HallD K mg g "Hall" ["things", "room", "kept"]) :
    FnI P w K mg base g "Hall" 3 2 F_Hall___init__ :=  by
  have S : FnScope ["self", "things"] ["self", "things"] (defScope st_Hall___init__) := ⟨rfl, rfl, rfl, by decide +kernel, rfl, by decide +kernel, by decide +kernel⟩
  have nd := S.nd
  exact fnI_made ["self", "things"] ["self", "things"] 2 2 D_Hall___init__ F hg hm S rfl rfl (F.bindsN fun _ _ _ _ _ _ us hl => match us, hl with | [_, _], _ => rfl) fun cdv A outer s H E hr => by
    have hu := room_un hr
    exact ⟨_, (b_cons (s_expr (d_call h_check_things (hr.mono (by decide)) (takes_of rfl rfl rfl rfl) (a_cons (d_var 1) a_nil)))
    (b_cons (s_fldSet k_Hall (by decide) (d_var 0) (d_var 1))
    (b_cons (s_fldSet k_Hall (by decide) (d_var 0) (d_tup a_nil))
    (b_one (s_fldSet k_Hall (by decide) (d_var 0) d_int)))))⟩

abbrev st_Hall_best : Stmt := mth 36 1
theorem ok_Hall_best {P : Program} {w : World} {K : Frag} {mg : Str → Option Value} {base : Heap} {g : G} {f : Addr} {fd : FuncData} (F : FunD K "best" "Hall.best" (defArgs st_Hall_best) (defBody st_Hall_best) (defScope st_Hall_best) [] [] f fd) (B : Blt mg) (hm : Meth K g.C "best" f) (h_best_for : FnD P w K mg base g "best_for" 2 2 F_best_for) (h_everyone : FnD P w K mg base g "everyone" 1 1 F_everyone) (k_Hall : HallD K mg g "Hall" ["things", "room", "kept"]) :
    FnM P w K mg base g "best" 3 1 F_Hall_best :=  by
  have S : FnScope ["self"] ["self"] (defScope st_Hall_best) := ⟨rfl, rfl, rfl, by decide +kernel, rfl, by decide +kernel, by decide +kernel⟩
  have nd := S.nd
  exact fnM_made ["self"] ["self"] 2 1 D_Hall_best F hm S rfl rfl (F.bindsN fun _ _ _ _ _ _ us hl => match us, hl with | [_], _ => rfl) fun cdv A outer s H E hr => by
    have hu := room_un hr
    exact ⟨_, (b_one (s_ret (d_if (t_ne hu (d_fld k_Hall (by decide) (d_var 0)) (d_tup a_nil)) (d_ix (d_call h_best_for (hr.mono (by decide)) (takes_of rfl rfl rfl rfl) (a_cons (d_fld k_Hall (by decide) (d_var 0)) (a_cons (d_call h_everyone (hr.mono (by decide)) (takes_of rfl rfl rfl rfl) (a_cons (d_fld k_Hall (by decide) (d_var 0)) a_nil)) a_nil))) d_int) d_int)))⟩

abbrev st_Hall_enter : Stmt := mth 36 2
theorem ok_Hall_enter {P : Program} {w : World} {K : Frag} {mg : Str → Option Value} {base : Heap} {g : G} {f : Addr} {fd : FuncData} {v_SIZES : V} {v_MOST : V} (F : FunD K "enter" "Hall.enter" (defArgs st_Hall_enter) (defBody st_Hall_enter) (defScope st_Hall_enter) [] [] f fd) (B : Blt mg) (hm : Meth K g.C "enter" f) (h_bids_for : FnD P w K mg base g "bids_for" 3 2 F_bids_for) (c_SIZES : Gc K mg "SIZES" v_SIZES k_SIZES) (c_MOST : Gc K mg "MOST" v_MOST k_MOST) (k_Hall : HallD K mg g "Hall" ["things", "room", "kept"]) (m_Hall_best : FnM P w K mg base g "best" 3 1 F_Hall_best) (x_InvalidBid : ExD K mg g "InvalidBid" e_InvalidBid) (x_TooMany : ExD K mg g "TooMany" e_TooMany) :
    FnM P w K mg base g "enter" 4 2 F_Hall_enter :=  by
  have S : FnScope ["self", "bid"] ["self", "bid"] (defScope st_Hall_enter) := ⟨rfl, rfl, rfl, by decide +kernel, rfl, by decide +kernel, by decide +kernel⟩
  have nd := S.nd
  exact fnM_made ["self", "bid"] ["self", "bid"] 3 2 D_Hall_enter F hm S rfl rfl (F.bindsN fun _ _ _ _ _ _ us hl => match us, hl with | [_, _], _ => rfl) fun cdv A outer s H E hr => by
    have hu := room_un hr
    exact ⟨_, (b_cons (s_if (t_not (t_val (d_call h_bids_for (hr.mono (by decide)) (takes_of rfl rfl rfl rfl) (a_cons (d_var 1) (a_cons (d_ix (d_glob c_SIZES) (d_sub (d_fld k_Hall (by decide) (d_var 0)) d_int)) a_nil))))) (b_one (s_raiseD x_InvalidBid (takes_of rfl rfl rfl rfl))) b_nil)
    (b_cons (s_if (t_eq hu (q_len B (a_cons (d_fld k_Hall (by decide) (d_var 0)) a_nil)) (d_glob c_MOST)) (b_one (s_raiseD x_TooMany (takes_of rfl rfl rfl rfl))) b_nil)
    (b_cons (s_fldSet k_Hall (by decide) (d_var 0) (d_add (d_fld k_Hall (by decide) (d_var 0)) (d_tup (a_cons (d_var 1) a_nil))))
    (b_one (s_ret (d_meth0 k_Hall m_Hall_best (hr.mono (by decide)) (takes_of rfl rfl rfl rfl) (d_var 0)))))))⟩

abbrev st_Hall_bids : Stmt := mth 36 3
theorem ok_Hall_bids {P : Program} {w : World} {K : Frag} {mg : Str → Option Value} {base : Heap} {g : G} {f : Addr} {fd : FuncData} (F : FunD K "bids" "Hall.bids" (defArgs st_Hall_bids) (defBody st_Hall_bids) (defScope st_Hall_bids) [] [] f fd) (B : Blt mg) (hm : Meth K g.C "bids" f) (k_Hall : HallD K mg g "Hall" ["things", "room", "kept"]) :
    FnM P w K mg base g "bids" 1 1 F_Hall_bids :=  by
  have S : FnScope ["self"] ["self"] (defScope st_Hall_bids) := ⟨rfl, rfl, rfl, by decide +kernel, rfl, by decide +kernel, by decide +kernel⟩
  have nd := S.nd
  exact fnM_made ["self"] ["self"] 0 1 D_Hall_bids F hm S rfl rfl (F.bindsN fun _ _ _ _ _ _ us hl => match us, hl with | [_], _ => rfl) fun cdv A outer s H E hr => by
    have hu := room_un hr
    exact ⟨_, (b_one (s_ret (d_fld k_Hall (by decide) (d_var 0))))⟩

abbrev st_Hall_payments : Stmt := mth 36 4
theorem ok_Hall_payments {P : Program} {w : World} {K : Frag} {mg : Str → Option Value} {base : Heap} {g : G} {f : Addr} {fd : FuncData} (F : FunD K "payments" "Hall.payments" (defArgs st_Hall_payments) (defBody st_Hall_payments) (defScope st_Hall_payments) [] [] f fd) (B : Blt mg) (hm : Meth K g.C "payments" f) (h_outcome : FnD P w K mg base g "outcome" 3 1 F_outcome) (k_Hall : HallD K mg g "Hall" ["things", "room", "kept"]) :
    FnM P w K mg base g "payments" 4 1 F_Hall_payments :=  by
  have S : FnScope ["self"] ["self"] (defScope st_Hall_payments) := ⟨rfl, rfl, rfl, by decide +kernel, rfl, by decide +kernel, by decide +kernel⟩
  have nd := S.nd
  exact fnM_made ["self"] ["self"] 3 1 D_Hall_payments F hm S rfl rfl (F.bindsN fun _ _ _ _ _ _ us hl => match us, hl with | [_], _ => rfl) fun cdv A outer s H E hr => by
    have hu := room_un hr
    exact ⟨_, (b_one (s_ret (d_if (t_ne hu (d_fld k_Hall (by decide) (d_var 0)) (d_tup a_nil)) (d_ix (d_call h_outcome (hr.mono (by decide)) (takes_of rfl rfl rfl rfl) (a_cons (d_fld k_Hall (by decide) (d_var 0)) a_nil)) d_int) (d_share (l_lst a_nil)))))⟩

-- BAD Hall_undo bad def _wall
-- BAD Hall_duplicate bad def _wall
abbrev st_Hall___eq__ : Stmt := mth 36 7
theorem ok_Hall___eq__ {P : Program} {w : World} {K : Frag} {mg : Str → Option Value} {base : Heap} {g : G} {f : Addr} {fd : FuncData} (F : FunD K "__eq__" "Hall.__eq__" (defArgs st_Hall___eq__) (defBody st_Hall___eq__) (defScope st_Hall___eq__) [] [] f fd) (B : Blt mg) (hm : Meth K g.C "__eq__" f) (k_Hall : HallD K mg g "Hall" ["things", "room", "kept"]) (kc_Hall : IsC K g.C) :
    FnM P w K mg base g "__eq__" 1 2 F_Hall___eq__ :=  by
  have S : FnScope ["self", "other"] ["self", "other"] (defScope st_Hall___eq__) := ⟨rfl, rfl, rfl, by decide +kernel, rfl, by decide +kernel, by decide +kernel⟩
  have nd := S.nd
  exact fnM_made ["self", "other"] ["self", "other"] 0 2 D_Hall___eq__ F hm S rfl rfl (F.bindsN fun _ _ _ _ _ _ us hl => match us, hl with | [_, _], _ => rfl) fun cdv A outer s H E hr => by
    have hu := room_un hr
    exact ⟨_, (b_one (s_ret (d_and (d_isC k_Hall kc_Hall (d_var 1) B.isinstance) (d_and (d_eq hu (d_fld k_Hall (by decide) (d_var 0)) (d_fld k_Hall (by decide) (d_var 1))) (d_one (d_eq hu (d_fld k_Hall (by decide) (d_var 0)) (d_fld k_Hall (by decide) (d_var 1))))))))⟩

abbrev st_Hall___len__ : Stmt := mth 36 8
theorem ok_Hall___len__ {P : Program} {w : World} {K : Frag} {mg : Str → Option Value} {base : Heap} {g : G} {f : Addr} {fd : FuncData} (F : FunD K "__len__" "Hall.__len__" (defArgs st_Hall___len__) (defBody st_Hall___len__) (defScope st_Hall___len__) [] [] f fd) (B : Blt mg) (hm : Meth K g.C "__len__" f) (k_Hall : HallD K mg g "Hall" ["things", "room", "kept"]) :
    FnM P w K mg base g "__len__" 1 1 F_Hall___len__ :=  by
  have S : FnScope ["self"] ["self"] (defScope st_Hall___len__) := ⟨rfl, rfl, rfl, by decide +kernel, rfl, by decide +kernel, by decide +kernel⟩
  have nd := S.nd
  exact fnM_made ["self"] ["self"] 0 1 D_Hall___len__ F hm S rfl rfl (F.bindsN fun _ _ _ _ _ _ us hl => match us, hl with | [_], _ => rfl) fun cdv A outer s H E hr => by
    have hu := room_un hr
    exact ⟨_, (b_one (s_ret (q_len B (a_cons (d_fld k_Hall (by decide) (d_var 0)) a_nil))))⟩

abbrev st_Hall___str__ : Stmt := mth 36 9
theorem ok_Hall___str__ {P : Program} {w : World} {K : Frag} {mg : Str → Option Value} {base : Heap} {g : G} {f : Addr} {fd : FuncData} (F : FunD K "__str__" "Hall.__str__" (defArgs st_Hall___str__) (defBody st_Hall___str__) (defScope st_Hall___str__) [] [] f fd) (B : Blt mg) (hm : Meth K g.C "__str__" f) (h_text_of : FnD P w K mg base g "text_of" 1 1 F_text_of) (k_Hall : HallD K mg g "Hall" ["things", "room", "kept"]) :
    FnM P w K mg base g "__str__" 2 1 F_Hall___str__ :=  by
  have S : FnScope ["self"] ["self"] (defScope st_Hall___str__) := ⟨rfl, rfl, rfl, by decide +kernel, rfl, by decide +kernel, by decide +kernel⟩
  have nd := S.nd
  exact fnM_made ["self"] ["self"] 1 1 D_Hall___str__ F hm S rfl rfl (F.bindsN fun _ _ _ _ _ _ us hl => match us, hl with | [_], _ => rfl) fun cdv A outer s H E hr => by
    have hu := room_un hr
    exact ⟨_, (b_cons (s_if (t_eq hu (d_fld k_Hall (by decide) (d_var 0)) (d_tup a_nil)) (b_one (s_ret d_str)) b_nil)
    (b_one (s_ret (d_str1 (d_call h_text_of (hr.mono (by decide)) (takes_of rfl rfl rfl rfl) (a_cons (d_fld k_Hall (by decide) (d_var 0)) a_nil)) B.str))))⟩

abbrev st_count_things : Stmt := top 38
theorem ok_count_things {P : Program} {w : World} {K : Frag} {mg : Str → Option Value} {base : Heap} {g : G} {f : Addr} {fd : FuncData} (F : FunD K "count_things" "count_things" (defArgs st_count_things) (defBody st_count_things) (defScope st_count_things) [] [] f fd) (B : Blt mg) (hm : mg "count_things" = some (.ref f)) (h_things_in : FnD P w K mg base g "things_in" 1 1 F_things_in) :
    FnD P w K mg base g "count_things" 2 1 F_count_things := by
  have S : FnScope ["room"] ["room"] (defScope st_count_things) := ⟨rfl, rfl, rfl, by decide +kernel, rfl, by decide +kernel, by decide +kernel⟩
  have nd := S.nd
  exact fn_made ["room"] ["room"] 1 1 D_count_things F hm S rfl rfl (F.bindsN fun _ _ _ _ _ _ us hl => match us, hl with | [_], _ => rfl) fun cdv A outer s H E hr => by
    have hu := room_un hr
    exact ⟨_, (b_one (s_ret (q_len B (a_cons (d_call h_things_in (hr.mono (by decide)) (takes_of rfl rfl rfl rfl) (a_cons (d_sub (q_len B (a_cons (d_ix (d_var 0) d_int) a_nil)) d_int) a_nil)) a_nil))))⟩

abbrev st_price_of : Stmt := top 39
theorem ok_price_of {P : Program} {w : World} {K : Frag} {mg : Str → Option Value} {base : Heap} {g : G} {f : Addr} {fd : FuncData} (F : FunD K "price_of" "price_of" (defArgs st_price_of) (defBody st_price_of) (defScope st_price_of) [] [] f fd) (B : Blt mg) (hm : mg "price_of" = some (.ref f)) (h_things_in : FnD P w K mg base g "things_in" 1 1 F_things_in) :
    FnD P w K mg base g "price_of" 2 2 F_price_of := by
  have S : FnScope ["prices", "some", "thing"] ["prices", "some"] (defScope st_price_of) := ⟨rfl, rfl, rfl, by decide +kernel, rfl, by decide +kernel, by decide +kernel⟩
  have nd := S.nd
  exact fn_made ["prices", "some", "thing"] ["prices", "some"] 1 2 D_price_of F hm S rfl rfl (F.bindsN fun _ _ _ _ _ _ us hl => match us, hl with | [_, _], _ => rfl) fun cdv A outer s H E hr => by
    have hu := room_un hr
    exact ⟨_, (b_one (s_ret (q_sum B (a_cons (d_share (l_lc [("thing", 2)] nd (i_any (d_call h_things_in (hr.mono (by decide)) (takes_of rfl rfl rfl rfl) (a_cons (d_var 1) a_nil))) (blkOk_by (by kernel_rfl)) (fun _ _ _ _ _ => (g_name nd)) (fun _ _ _ _ _ => ts_nil) (fun _ _ _ _ _ => (d_ix (d_var 0) (d_var 2))))) a_nil))))⟩

abbrev st_parts : Stmt := top 40
theorem ok_parts {P : Program} {w : World} {K : Frag} {mg : Str → Option Value} {base : Heap} {g : G} {f : Addr} {fd : FuncData} (F : FunD K "parts" "parts" (defArgs st_parts) (defBody st_parts) (defScope st_parts) [] [] f fd) (B : Blt mg) (hm : mg "parts" = some (.ref f)) (h_price_of : FnD P w K mg base g "price_of" 2 2 F_price_of) :
    FnD P w K mg base g "parts" 3 3 F_parts := by
  have S : FnScope ["room", "allotment", "prices", "bid", "some", "most", "other", "worth"] ["room", "allotment", "prices"] (defScope st_parts) := ⟨rfl, rfl, rfl, by decide +kernel, rfl, by decide +kernel, by decide +kernel⟩
  have nd := S.nd
  exact fn_made ["room", "allotment", "prices", "bid", "some", "most", "other", "worth"] ["room", "allotment", "prices"] 2 3 D_parts F hm S rfl rfl (F.bindsN fun _ _ _ _ _ _ us hl => match us, hl with | [_, _, _], _ => rfl) fun cdv A outer s H E hr => by
    have hu := room_un hr
    exact ⟨_, (b_cons (s_if (t_gt (d_call h_price_of (hr.mono (by decide)) (takes_of rfl rfl rfl rfl) (a_cons (d_var 2) (a_cons (d_sub (d_sub (q_len B (a_cons (d_ix (d_var 0) d_int) a_nil)) d_int) (q_sum B (a_cons (d_var 1) a_nil))) a_nil))) d_int) (b_one (s_ret d_bool)) b_nil)
    (b_cons (s_for PassesOwn.leaving (i_zip2 (d_var 0) (d_var 1) B.zip) (g_two (g_name nd) (g_name nd))
    (b_cons (s_asg nd (x_v (q_max B (a_cons (d_share (l_lc [("other", 6), ("worth", 7)] nd (i_enum (d_var 3) B.enumerate) (blkOk_by (by kernel_rfl)) (fun _ _ _ _ _ => (g_two (g_name nd) (g_name nd))) (fun _ _ _ _ _ => ts_nil) (fun _ _ _ _ _ => (d_sub (d_var 7) (d_call h_price_of (hr.mono (by decide)) takes0 (a_cons (d_var 2) (a_cons (d_var 6) a_nil))))))) a_nil))))
    (b_one (s_if (t_gt (d_var 5) (d_sub (d_ix (d_var 3) (d_var 4)) (d_call h_price_of (hr.mono (by decide)) (takes_of rfl rfl rfl rfl) (a_cons (d_var 2) (a_cons (d_var 4) a_nil))))) (b_one (s_ret d_bool)) b_nil))))
    (b_one (s_ret d_bool))))⟩

abbrev st_do_part : Stmt := top 41
theorem ok_do_part {P : Program} {w : World} {K : Frag} {mg : Str → Option Value} {base : Heap} {g : G} {f : Addr} {fd : FuncData} (F : FunD K "do_part" "do_part" (defArgs st_do_part) (defBody st_do_part) (defScope st_do_part) [] [] f fd) (B : Blt mg) (hm : mg "do_part" = some (.ref f)) (h_check_room : FnD P w K mg base g "check_room" 5 1 F_check_room) (h_count_things : FnD P w K mg base g "count_things" 2 1 F_count_things) (h_is_integer : FnD P w K mg base g "is_integer" 1 3 F_is_integer) (h_parts : FnD P w K mg base g "parts" 3 3 F_parts) (h_best_for : FnD P w K mg base g "best_for" 2 2 F_best_for) (h_everyone : FnD P w K mg base g "everyone" 1 1 F_everyone) (x_InvalidPrices : ExD K mg g "InvalidPrices" e_InvalidPrices) :
    FnD P w K mg base g "do_part" 6 2 F_do_part := by
  have S : FnScope ["room", "prices", "one"] ["room", "prices"] (defScope st_do_part) := ⟨rfl, rfl, rfl, by decide +kernel, rfl, by decide +kernel, by decide +kernel⟩
  have nd := S.nd
  exact fn_made ["room", "prices", "one"] ["room", "prices"] 5 2 D_do_part F hm S rfl rfl (F.bindsN fun _ _ _ _ _ _ us hl => match us, hl with | [_, _], _ => rfl) fun cdv A outer s H E hr => by
    have hu := room_un hr
    exact ⟨_, (b_cons (s_expr (d_call h_check_room (hr.mono (by decide)) (takes_of rfl rfl rfl rfl) (a_cons (d_var 0) a_nil)))
    (b_cons (s_if (t_w (w_or (t_not (t_val (d_isi (d_var 1) B.isinstance B.tuple DL.boot_tuple))) (w_or1 (t_ne hu (q_len B (a_cons (d_var 1) a_nil)) (d_call h_count_things (hr.mono (by decide)) (takes_of rfl rfl rfl rfl) (a_cons (d_var 0) a_nil)))))) (b_one (s_raiseD x_InvalidPrices (takes_of rfl rfl rfl rfl))) b_nil)
    (b_cons (s_if (t_not (t_val (q_all B (a_cons (d_share (l_lc [("one", 2)] nd (i_any (d_var 1)) (blkOk_by (by kernel_rfl)) (fun _ _ _ _ _ => (g_name nd)) (fun _ _ _ _ _ => ts_nil) (fun _ _ _ _ _ => (d_call h_is_integer (hr.mono (by decide)) takes0 (a_cons (d_var 2) (a_cons d_int (a_cons d_int a_nil))))))) a_nil)))) (b_one (s_raiseD x_InvalidPrices (takes_of rfl rfl rfl rfl))) b_nil)
    (b_one (s_ret (d_call h_parts (hr.mono (by decide)) (takes_of rfl rfl rfl rfl) (a_cons (d_var 0) (a_cons (d_ix (d_call h_best_for (hr.mono (by decide)) (takes_of rfl rfl rfl rfl) (a_cons (d_var 0) (a_cons (d_call h_everyone (hr.mono (by decide)) (takes_of rfl rfl rfl rfl) (a_cons (d_var 0) a_nil)) a_nil))) d_int) (a_cons (d_var 1) a_nil)))))))))⟩

abbrev st__law_cell_at : Stmt := top 43
theorem ok__law_cell_at {P : Program} {w : World} {K : Frag} {mg : Str → Option Value} {base : Heap} {g : G} {f : Addr} {fd : FuncData} (F : FunD K "_law_cell_at" "_law_cell_at" (defArgs st__law_cell_at) (defBody st__law_cell_at) (defScope st__law_cell_at) [] [] f fd) (B : Blt mg) (hm : mg "_law_cell_at" = some (.ref f)) :
    FnD P w K mg base g "_law_cell_at" 1 2 F__law_cell_at := by
  have S : FnScope ["_law_script", "_law_k", "_law_spare", "_law_again"] ["_law_script", "_law_k"] (defScope st__law_cell_at) := ⟨rfl, rfl, rfl, by decide +kernel, rfl, by decide +kernel, by decide +kernel⟩
  have nd := S.nd
  exact fn_made ["_law_script", "_law_k", "_law_spare", "_law_again"] ["_law_script", "_law_k"] 0 2 D__law_cell_at F hm S rfl rfl (F.bindsN fun _ _ _ _ _ _ us hl => match us, hl with | [_, _], _ => rfl) fun cdv A outer s H E hr => by
    have hu := room_un hr
    exact ⟨_, (b_cons (s_if (t_lt (d_var 1) (q_len B (a_cons (d_var 0) a_nil))) (b_one (s_ret (d_ix (d_var 0) (d_var 1)))) b_nil)
    (b_cons (s_if (t_eq hu (d_var 0) (d_share (l_lst a_nil))) (b_one (s_ret d_int)) b_nil)
    (b_cons (s_asg nd (x_v (d_ix (d_var 0) (d_mod (d_var 1) (q_len B (a_cons (d_var 0) a_nil))))))
    (b_cons (s_for PassesOwn.leaving (i_rg1 (q_min B (a_cons (d_div (d_var 1) (q_len B (a_cons (d_var 0) a_nil))) (a_cons d_int a_nil))) B.range) (g_name nd)
    (b_one (s_asg nd (x_v (d_div (d_var 2) d_int)))))
    (b_one (s_ret (d_add (d_add (d_mul (d_ix (d_var 0) (d_mod (d_var 1) (q_len B (a_cons (d_var 0) a_nil)))) d_int) (d_var 1)) (d_mul (d_var 2) d_int))))))))⟩

abbrev st__law_mixed : Stmt := top 44
theorem ok__law_mixed {P : Program} {w : World} {K : Frag} {mg : Str → Option Value} {base : Heap} {g : G} {f : Addr} {fd : FuncData} (F : FunD K "_law_mixed" "_law_mixed" (defArgs st__law_mixed) (defBody st__law_mixed) (defScope st__law_mixed) [] [] f fd) (B : Blt mg) (hm : mg "_law_mixed" = some (.ref f)) (h__law_cell_at : FnD P w K mg base g "_law_cell_at" 1 2 F__law_cell_at) :
    FnD P w K mg base g "_law_mixed" 2 3 F__law_mixed := by
  have S : FnScope ["_law_script", "_law_k", "_law_many", "_law_spun"] ["_law_script", "_law_k", "_law_many"] (defScope st__law_mixed) := ⟨rfl, rfl, rfl, by decide +kernel, rfl, by decide +kernel, by decide +kernel⟩
  have nd := S.nd
  exact fn_made ["_law_script", "_law_k", "_law_many", "_law_spun"] ["_law_script", "_law_k", "_law_many"] 1 3 D__law_mixed F hm S rfl rfl (F.bindsN fun _ _ _ _ _ _ us hl => match us, hl with | [_, _, _], _ => rfl) fun cdv A outer s H E hr => by
    have hu := room_un hr
    exact ⟨_, (b_cons (s_asg nd (x_v (d_mod (d_add (d_add (d_mul (d_call h__law_cell_at (hr.mono (by decide)) (takes_of rfl rfl rfl rfl) (a_cons (d_var 0) (a_cons (d_var 1) a_nil))) d_int) (d_mul d_int (d_var 1))) d_int) d_int)))
    (b_one (s_ret (d_mod (d_mod (d_mod (d_pow (d_var 3) d_int) d_int) d_int) (d_var 2)))))⟩

abbrev st__law_draw : Stmt := top 45
theorem ok__law_draw {P : Program} {w : World} {K : Frag} {mg : Str → Option Value} {base : Heap} {g : G} {f : Addr} {fd : FuncData} (F : FunD K "_law_draw" "_law_draw" (defArgs st__law_draw) (defBody st__law_draw) (defScope st__law_draw) [] [] f fd) (B : Blt mg) (hm : mg "_law_draw" = some (.ref f)) (h__law_mixed : FnD P w K mg base g "_law_mixed" 2 3 F__law_mixed) :
    FnD P w K mg base g "_law_draw" 3 3 F__law_draw := by
  have S : FnScope ["_law_script", "_law_town", "_law_many"] ["_law_script", "_law_town", "_law_many"] (defScope st__law_draw) := ⟨rfl, rfl, rfl, by decide +kernel, rfl, by decide +kernel, by decide +kernel⟩
  have nd := S.nd
  exact fn_made ["_law_script", "_law_town", "_law_many"] ["_law_script", "_law_town", "_law_many"] 2 3 D__law_draw F hm S rfl rfl (F.bindsN fun _ _ _ _ _ _ us hl => match us, hl with | [_, _, _], _ => rfl) fun cdv A outer s H E hr => by
    have hu := room_un hr
    exact ⟨_, (b_cons (s_appT (d_var 1) d_int)
    (b_one (s_ret (d_call h__law_mixed (hr.mono (by decide)) (takes_of rfl rfl rfl rfl) (a_cons (d_var 0) (a_cons (q_len B (a_cons (d_var 1) a_nil)) (a_cons (d_var 2) a_nil)))))))⟩

abbrev st__law_inside : Stmt := top 46
theorem ok__law_inside {P : Program} {w : World} {K : Frag} {mg : Str → Option Value} {base : Heap} {g : G} {f : Addr} {fd : FuncData} (F : FunD K "_law_inside" "_law_inside" (defArgs st__law_inside) (defBody st__law_inside) (defScope st__law_inside) [] [] f fd) (B : Blt mg) (hm : mg "_law_inside" = some (.ref f)) :
    FnD P w K mg base g "_law_inside" 1 1 F__law_inside := by
  have S : FnScope ["_law_some", "_law_thing", "_law_power"] ["_law_some"] (defScope st__law_inside) := ⟨rfl, rfl, rfl, by decide +kernel, rfl, by decide +kernel, by decide +kernel⟩
  have nd := S.nd
  exact fn_made ["_law_some", "_law_thing", "_law_power"] ["_law_some"] 0 1 D__law_inside F hm S rfl rfl (F.bindsN fun _ _ _ _ _ _ us hl => match us, hl with | [_], _ => rfl) fun cdv A outer s H E hr => by
    have hu := room_un hr
    exact ⟨_, (b_one (s_ret (d_share (l_lc [("_law_thing", 1), ("_law_power", 2)] nd (i_enum (d_share (l_lst (a_cons d_int (a_cons d_int (a_cons d_int a_nil))))) B.enumerate) (blkOk_by (by kernel_rfl)) (fun _ _ _ _ _ => (g_two (g_name nd) (g_name nd))) (fun _ _ _ _ _ => (ts_one (t_eq hu (d_mod (d_div (d_var 0) (d_var 2)) d_int) d_int))) (fun _ _ _ _ _ => (d_var 1))))))⟩

abbrev st__law_some_bid : Stmt := top 47
theorem ok__law_some_bid {P : Program} {w : World} {K : Frag} {mg : Str → Option Value} {base : Heap} {g : G} {f : Addr} {fd : FuncData} (F : FunD K "_law_some_bid" "_law_some_bid" (defArgs st__law_some_bid) (defBody st__law_some_bid) (defScope st__law_some_bid) [] [] f fd) (B : Blt mg) (hm : mg "_law_some_bid" = some (.ref f)) (h__law_draw : FnD P w K mg base g "_law_draw" 3 3 F__law_draw) (h__law_inside : FnD P w K mg base g "_law_inside" 1 1 F__law_inside) :
    FnD P w K mg base g "_law_some_bid" 4 4 F__law_some_bid := by
  have S : FnScope ["_law_script", "_law_town", "_law_things", "_law_kind", "_law_size", "_law_worths", "_law_again", "_law_some", "_law_thing", "_law_goal", "_law_worth", "_law_made", "_law_low"] ["_law_script", "_law_town", "_law_things", "_law_kind"] (defScope st__law_some_bid) := ⟨rfl, rfl, rfl, by decide +kernel, rfl, by decide +kernel, by decide +kernel⟩
  have nd := S.nd
  exact fn_made ["_law_script", "_law_town", "_law_things", "_law_kind", "_law_size", "_law_worths", "_law_again", "_law_some", "_law_thing", "_law_goal", "_law_worth", "_law_made", "_law_low"] ["_law_script", "_law_town", "_law_things", "_law_kind"] 3 4 D__law_some_bid F hm S rfl rfl (F.bindsN fun _ _ _ _ _ _ us hl => match us, hl with | [_, _, _, _], _ => rfl) fun cdv A outer s H E hr => by
    have hu := room_un hr
    exact ⟨_, (b_cons (s_asg nd (x_v (d_ix (d_share (l_lst (a_cons d_int (a_cons d_int (a_cons d_int a_nil))))) (d_sub (d_var 2) d_int))))
    (b_cons (s_if (t_eq hu (d_var 3) d_int) (b_cons (s_asg nd (x_v (d_share (l_lc [("_law_again", 6)] nd (i_rg1 (d_var 2) B.range) (blkOk_by (by kernel_rfl)) (fun _ _ _ _ _ => (g_name nd)) (fun _ _ _ _ _ => ts_nil) (fun _ _ _ _ _ => (d_call h__law_draw (hr.mono (by decide)) takes0 (a_cons (d_var 0) (a_cons (d_var 1) (a_cons d_int a_nil)))))))))
    (b_one (s_ret (q_tuple B (a_cons (d_share (l_lc [("_law_some", 7)] nd (i_rg1 (d_var 4) B.range) (blkOk_by (by kernel_rfl)) (fun _ _ _ _ _ => (g_name nd)) (fun _ _ _ _ _ => ts_nil) (fun _ _ _ _ _ => (q_sum B (a_cons (d_share (l_lc [("_law_thing", 8)] nd (i_any (d_call h__law_inside (hr.mono (by decide)) takes0 (a_cons (d_var 7) a_nil))) (blkOk_by (by kernel_rfl)) (fun _ _ _ _ _ => (g_name nd)) (fun _ _ _ _ _ => ts_nil) (fun _ _ _ _ _ => (d_ix (d_var 5) (d_var 8))))) a_nil))))) a_nil))))) b_nil)
    (b_cons (s_if (t_eq hu (d_var 3) d_int) (b_cons (s_asg nd (x_v (d_share (l_lc [("_law_again", 6)] nd (i_rg1 (d_var 2) B.range) (blkOk_by (by kernel_rfl)) (fun _ _ _ _ _ => (g_name nd)) (fun _ _ _ _ _ => ts_nil) (fun _ _ _ _ _ => (d_call h__law_draw (hr.mono (by decide)) takes0 (a_cons (d_var 0) (a_cons (d_var 1) (a_cons d_int a_nil)))))))))
    (b_one (s_ret (q_tuple B (a_cons (d_share (l_lc [("_law_some", 7)] nd (i_rg1 (d_var 4) B.range) (blkOk_by (by kernel_rfl)) (fun _ _ _ _ _ => (g_name nd)) (fun _ _ _ _ _ => ts_nil) (fun _ _ _ _ _ => (q_max B (a_cons (d_add (d_share (l_lst (a_cons d_int a_nil))) (d_share (l_lc [("_law_thing", 8)] nd (i_any (d_call h__law_inside (hr.mono (by decide)) takes0 (a_cons (d_var 7) a_nil))) (blkOk_by (by kernel_rfl)) (fun _ _ _ _ _ => (g_name nd)) (fun _ _ _ _ _ => ts_nil) (fun _ _ _ _ _ => (d_ix (d_var 5) (d_var 8)))))) a_nil))))) a_nil))))) b_nil)
    (b_cons (s_if (t_eq hu (d_var 3) d_int) (b_cons (s_par nd (x_v (d_add d_int (d_call h__law_draw (hr.mono (by decide)) (takes_of rfl rfl rfl rfl) (a_cons (d_var 0) (a_cons (d_var 1) (a_cons (d_sub (d_var 4) d_int) a_nil)))))) (x_v (d_call h__law_draw (hr.mono (by decide)) (takes_of rfl rfl rfl rfl) (a_cons (d_var 0) (a_cons (d_var 1) (a_cons d_int a_nil))))))
    (b_cons (s_asg nd (x_o (l_lst a_nil)))
    (b_cons (s_for PassesOwn.leaving (i_rg1 (d_var 4) B.range) (g_name nd)
    (b_one (s_app (d_var 11) (d_if (t_eq hu (d_share (l_lc [("_law_thing", 8)] nd (i_any (d_call h__law_inside (hr.mono (by decide)) (takes_of rfl rfl rfl rfl) (a_cons (d_var 9) a_nil))) (blkOk_by (by kernel_rfl)) (fun _ _ _ _ _ => (g_name nd)) (fun _ _ _ _ _ => (ts_one (t_notIn hu (d_var 8) (d_call h__law_inside (hr.mono (by decide)) takes0 (a_cons (d_var 7) a_nil))))) (fun _ _ _ _ _ => d_int))) (d_share (l_lst a_nil))) (d_var 10) d_int))))
    (b_freeze (b_one (s_ret (q_tuple B (a_cons (d_var 11) a_nil)))))))) b_nil)
    (b_cons (s_asg nd (x_o (l_lst (a_cons d_int a_nil))))
    (b_cons (s_for PassesOwn.leaving (i_rg2 d_int (d_var 4) B.range) (g_name nd)
    (b_cons (s_asg nd (x_v (q_max B (a_cons (d_share (l_lc [("_law_thing", 8)] nd (i_any (d_call h__law_inside (hr.mono (by decide)) (takes_of rfl rfl rfl rfl) (a_cons (d_var 7) a_nil))) (blkOk_by (by kernel_rfl)) (fun _ _ _ _ _ => (g_name nd)) (fun _ _ _ _ _ => ts_nil) (fun _ _ _ _ _ => (d_ixv (d_sub (d_var 7) (d_ix (d_share (l_lst (a_cons d_int (a_cons d_int (a_cons d_int a_nil))))) (d_var 8))))))) a_nil))))
    (b_one (s_app (d_var 11) (q_min B (a_cons d_int (a_cons (d_add (d_var 12) (d_ix (d_share (l_lst (a_cons d_int (a_cons d_int (a_cons d_int (a_cons d_int (a_cons d_int a_nil))))))) (d_call h__law_draw (hr.mono (by decide)) (takes_of rfl rfl rfl rfl) (a_cons (d_var 0) (a_cons (d_var 1) (a_cons d_int a_nil)))))) a_nil)))))))
    (b_freeze (b_one (s_ret (q_tuple B (a_cons (d_var 11) a_nil)))))))))))⟩

abbrev st__law_some_room : Stmt := top 48
theorem ok__law_some_room {P : Program} {w : World} {K : Frag} {mg : Str → Option Value} {base : Heap} {g : G} {f : Addr} {fd : FuncData} (F : FunD K "_law_some_room" "_law_some_room" (defArgs st__law_some_room) (defBody st__law_some_room) (defScope st__law_some_room) [] [] f fd) (B : Blt mg) (hm : mg "_law_some_room" = some (.ref f)) (h__law_draw : FnD P w K mg base g "_law_draw" 3 3 F__law_draw) (h__law_some_bid : FnD P w K mg base g "_law_some_bid" 4 4 F__law_some_bid) :
    FnD P w K mg base g "_law_some_room" 5 3 F__law_some_room := by
  have S : FnScope ["_law_script", "_law_town", "_law_most", "_law_things", "_law_made", "_law_again"] ["_law_script", "_law_town", "_law_most"] (defScope st__law_some_room) := ⟨rfl, rfl, rfl, by decide +kernel, rfl, by decide +kernel, by decide +kernel⟩
  have nd := S.nd
  exact fn_made ["_law_script", "_law_town", "_law_most", "_law_things", "_law_made", "_law_again"] ["_law_script", "_law_town", "_law_most"] 4 3 D__law_some_room F hm S rfl rfl (F.bindsN fun _ _ _ _ _ _ us hl => match us, hl with | [_, _, _], _ => rfl) fun cdv A outer s H E hr => by
    have hu := room_un hr
    exact ⟨_, (b_cons (s_par nd (x_v (d_add d_int (d_call h__law_draw (hr.mono (by decide)) (takes_of rfl rfl rfl rfl) (a_cons (d_var 0) (a_cons (d_var 1) (a_cons d_int a_nil)))))) (x_o (l_lst a_nil)))
    (b_cons (s_for PassesOwn.leaving (i_rg1 (d_add d_int (d_call h__law_draw (hr.mono (by decide)) (takes_of rfl rfl rfl rfl) (a_cons (d_var 0) (a_cons (d_var 1) (a_cons (d_var 2) a_nil))))) B.range) (g_name nd)
    (b_one (s_app (d_var 4) (d_call h__law_some_bid (hr.mono (by decide)) (takes_of rfl rfl rfl rfl) (a_cons (d_var 0) (a_cons (d_var 1) (a_cons (d_var 3) (a_cons (d_call h__law_draw (hr.mono (by decide)) (takes_of rfl rfl rfl rfl) (a_cons (d_var 0) (a_cons (d_var 1) (a_cons d_int a_nil)))) a_nil))))))))
    (b_freeze (b_one (s_ret (q_tuple B (a_cons (d_var 4) a_nil)))))))⟩

abbrev st__law_told : Stmt := top 49
theorem ok__law_told {P : Program} {w : World} {K : Frag} {mg : Str → Option Value} {base : Heap} {g : G} {f : Addr} {fd : FuncData} (F : FunD K "_law_told" "_law_told" (defArgs st__law_told) (defBody st__law_told) (defScope st__law_told) [] [] f fd) (B : Blt mg) (hm : mg "_law_told" = some (.ref f)) (h_do_part : FnD P w K mg base g "do_part" 6 2 F_do_part) (h_best_allotment : FnD P w K mg base g "best_allotment" 6 1 F_best_allotment) (h_objecting : FnD P w K mg base g "objecting" 7 1 F_objecting) (h_kept : FnD P w K mg base g "kept" 6 1 F_kept) (h_payments : FnD P w K mg base g "payments" 6 1 F_payments) :
    FnD P w K mg base g "_law_told" 8 1 F__law_told := by
  have S : FnScope ["_law_room", "_law_prices"] ["_law_room"] (defScope st__law_told) := ⟨rfl, rfl, rfl, by decide +kernel, rfl, by decide +kernel, by decide +kernel⟩
  have nd := S.nd
  exact fn_made ["_law_room", "_law_prices"] ["_law_room"] 7 1 D__law_told F hm S rfl rfl (F.bindsN fun _ _ _ _ _ _ us hl => match us, hl with | [_], _ => rfl) fun cdv A outer s H E hr => by
    have hu := room_un hr
    exact ⟨_, (b_cons (s_asg nd (x_v (d_add (d_mul (d_tup (a_cons d_int a_nil)) (d_idx (d_share (l_lst (a_cons d_int (a_cons d_int (a_cons d_int a_nil))))) (q_len B (a_cons (d_ix (d_var 0) d_int) a_nil)))) (d_tup (a_cons d_int a_nil)))))
    (b_one (s_ret (d_share (l_lst (a_cons (d_call h_payments (hr.mono (by decide)) (takes_of rfl rfl rfl rfl) (a_cons (d_var 0) a_nil)) (a_cons (d_call h_kept (hr.mono (by decide)) (takes_of rfl rfl rfl rfl) (a_cons (d_var 0) a_nil)) (a_cons (d_call h_objecting (hr.mono (by decide)) (takes_of rfl rfl rfl rfl) (a_cons (d_var 0) a_nil)) (a_cons (d_share (l_lst (a_cons (d_call h_best_allotment (hr.mono (by decide)) (takes_of rfl rfl rfl rfl) (a_cons (d_var 0) a_nil)) (a_cons (d_call h_do_part (hr.mono (by decide)) (takes_of rfl rfl rfl rfl) (a_cons (d_var 0) (a_cons (d_var 1) a_nil))) a_nil)))) a_nil)))))))))⟩

def D_law : DS := (sSeq (sAsg 1 (xO (dLst aNil)))
    (sKeep 1 (sSeq (sPar 2 3 (xV (dCall F__law_some_room (aCons (dVar 0) (aCons (dVar 1) (aCons (dC (.int 3)) aNil))))) (xV (dCall F__law_some_room (aCons (dVar 0) (aCons (dVar 1) (aCons (dC (.int 3)) aNil))))))
    (sSeq (sAsg 4 (xV (dCall F__law_told (aCons (dVar 2) aNil))))
    (sSeq (sAsg 5 (xV (dCall F__law_told (aCons (dVar 3) aNil))))
    (sSeq (sAsg 6 (xV (dMake F_Hall___init__ (aCons (dC (.int 1)) aNil))))
    (sSeq (sDrop (dMeth F_Hall_enter "enter" (dVar 6) (aCons (dTup (aCons (dC (.int 0)) (aCons (dC (.int 4)) aNil))) aNil)))
    (sSeq (sFor (iRg1 (dC (.int 3))) (gN 7)
    (sIf (dOr (dTest (dBin pyNe (dMeth F_Hall_bids "bids" (dVar 6) aNil) (dTup (aCons (dTup (aCons (dC (.int 0)) (aCons (dC (.int 4)) aNil))) aNil)))) (dOr (dTest (dBin pyNe (dMeth F_Hall_payments "payments" (dVar 6) aNil) (dShare (dLst (aCons (dC (.int 0)) aNil))))) (dOr (dTest (dBin pyNe (dLenI F_Hall___len__ (dVar 6)) (dC (.int 1)))) (dTest (dBin pyNe (dStrI F_Hall___str__ (dVar 6)) (dC (.str "04"))))))) (sRet (dC (.bool false))) sNext))
    (sSeq (sForApp 8 (dCall F__law_told (aCons (dVar 2) aNil)))
    (sRet (dAndV (dBin pyEq (dCall F__law_told (aCons (dVar 2) aNil)) (dVar 4)) (dBin pyEq (dCall F__law_told (aCons (dVar 3) aNil)) (dVar 5)))))))))))))
def F_law : DF := fnD 9 D_law
abbrev st_law : Stmt := top 50
theorem ok_law {P : Program} {w : World} {K : Frag} {mg : Str → Option Value} {base : Heap} {g : G} {f : Addr} {fd : FuncData} (F : FunD K "law" "law" (defArgs st_law) (defBody st_law) (defScope st_law) [] [] f fd) (B : Blt mg) (h__law_some_room : FnD P w K mg base g "_law_some_room" 5 3 F__law_some_room) (h__law_told : FnD P w K mg base g "_law_told" 8 1 F__law_told) (k_Hall : HallD K mg g "Hall" ["things", "room", "kept"]) (i_Hall : FnI P w K mg base g "Hall" 3 2 F_Hall___init__) (m_Hall_enter : FnM P w K mg base g "enter" 4 2 F_Hall_enter) (m_Hall___str__ : FnM P w K mg base g "__str__" 2 1 F_Hall___str__) (m_Hall___len__ : FnM P w K mg base g "__len__" 1 1 F_Hall___len__) (m_Hall_payments : FnM P w K mg base g "payments" 4 1 F_Hall_payments) (m_Hall_bids : FnM P w K mg base g "bids" 1 1 F_Hall_bids) :
    FnOk P w K mg base CX0 9 f fd ["_law_script"] (spL K g F_law) := by
  have S : FnScope ["_law_script", "_law_town", "_law_room", "_law_other", "_law_first", "_law_second", "_law_h", "_law_again", "_law_some"] ["_law_script"] (defScope st_law) := ⟨rfl, rfl, rfl, by decide +kernel, rfl, by decide +kernel, by decide +kernel⟩
  have nd := S.nd
  exact law_made ["_law_script", "_law_town", "_law_room", "_law_other", "_law_first", "_law_second", "_law_h", "_law_again", "_law_some"] "_law_script" 8 D_law F S rfl fun cdv A outer s H E hr => by
    have hu := room_un hr
    exact ⟨_, (b_cons (s_asg nd (x_o (l_lst a_nil)))
    (b_keep (b_cons (s_par nd (x_v (d_call h__law_some_room (hr.mono (by decide)) takes0 (a_cons (d_var 0) (a_cons (d_var 1) (a_cons d_int a_nil))))) (x_v (d_call h__law_some_room (hr.mono (by decide)) takes0 (a_cons (d_var 0) (a_cons (d_var 1) (a_cons d_int a_nil))))))
    (b_cons (s_asg nd (x_v (d_call h__law_told (hr.mono (by decide)) takes0 (a_cons (d_var 2) a_nil))))
    (b_cons (s_asg nd (x_v (d_call h__law_told (hr.mono (by decide)) takes0 (a_cons (d_var 3) a_nil))))
    (b_cons (s_asg nd (x_v (d_make i_Hall (hr.mono (by decide)) takes0 (a_cons d_int a_nil))))
    (b_cons (s_expr (d_meth k_Hall m_Hall_enter (hr.mono (by decide)) takes0 (d_var 6) (a_cons (d_tup (a_cons d_int (a_cons d_int a_nil))) a_nil)))
    (b_cons (s_for PassesOwn.leaving (i_rg1 d_int B.range) (g_name nd)
    (b_one (s_if (t_w (w_or (t_ne hu (d_meth0 k_Hall m_Hall_bids (hr.mono (by decide)) takes0 (d_var 6)) (d_tup (a_cons (d_tup (a_cons d_int (a_cons d_int a_nil))) a_nil))) (w_or (t_ne hu (d_meth0 k_Hall m_Hall_payments (hr.mono (by decide)) takes0 (d_var 6)) (d_share (l_lst (a_cons d_int a_nil)))) (w_or (t_ne hu (d_lenI m_Hall___len__ (hr.mono (by decide)) (d_var 6) B.len) d_int) (w_or1 (t_ne hu (d_strI m_Hall___str__ (hr.mono (by decide)) hu (d_var 6) B.str) d_str)))))) (b_one (s_ret d_bool)) b_nil)))
    (b_cons (s_forApp nd PassesOwn.leaving (d_call h__law_told (hr.mono (by decide)) takes0 (a_cons (d_var 2) a_nil)) (d_var 8))
    (b_one (s_ret (d_and (d_eq hu (d_call h__law_told (hr.mono (by decide)) takes0 (a_cons (d_var 2) a_nil)) (d_var 4)) (d_one (d_eq hu (d_call h__law_told (hr.mono (by decide)) takes0 (a_cons (d_var 3) a_nil)) (d_var 5)))))))))))))))⟩

end OL.K14

set_option maxHeartbeats 4000000
/-! DLMath: the denotations evaluated: equations, loops. -/
namespace DL
open PySem L2
section
variable {f f2 : D → D → Option D} {fa fb fc : DE} {fs : DA} {ft fu : DT} {sd : Slots} {μ : Mu} {i j k : Nat}
@[simp] theorem e_var : dVar i sd μ = match sd[i]? with
  | some (some (.v d)) => .ok d μ
  | _ => .bad := rfl
@[simp] theorem e_c (d : D) : dC d sd μ = .ok d μ := rfl
@[simp] theorem e_bin : dBin f fa fb sd μ = (fa sd μ).bind fun x μ1 => (fb sd μ1).bind fun y μ2 => lift (f x y) μ2 := rfl
@[simp] theorem e_aNil : aNil sd μ = .ok [] μ := rfl
@[simp] theorem e_aCons : aCons fa fs sd μ = (fa sd μ).bind fun d μ1 => (fs sd μ1).bind fun ds μ2 => .ok (d :: ds) μ2 := rfl
@[simp] theorem e_tup : dTup fs sd μ = (fs sd μ).bind fun ds μ1 => lift (if ds.length ≤ 100000 then some (.tuple ds) else none) μ1 := rfl
@[simp] theorem e_lst : dLst fs sd μ = (fs sd μ).bind fun ds μ1 => lift (if ds.length ≤ 100000 then some ds else none) μ1 := rfl
@[simp] theorem e_share (fl : DA) : dShare fl sd μ = (fl sd μ).bind fun ds μ1 => .ok (.list ds) μ1 := rfl
@[simp] theorem e_cb (g : List D → Mu → Option D) : dCB g fs sd μ = (fs sd μ).bind fun ds μ1 => lift (g ds μ1) μ1 := rfl
@[simp] theorem e_call (F : DF) : dCall F fs sd μ = (fs sd μ).bind fun ds μ1 => F ds μ1 := rfl
@[simp] theorem e_call0 (F : DF) : dCall0 F sd μ = F [] μ := rfl
@[simp] theorem e_un (g : D → Option D) : dUn g fa sd μ = (fa sd μ).bind fun d μ1 => lift (g d) μ1 := rfl
@[simp] theorem e_test : dTest fa sd μ = (fa sd μ).bind fun d μ1 => lift (asB d) μ1 := rfl
@[simp] theorem e_and : dAnd ft fu sd μ = (ft sd μ).bind fun b μ1 => if b = true then fu sd μ1 else .ok false μ1 := rfl
@[simp] theorem e_or : dOr ft fu sd μ = (ft sd μ).bind fun b μ1 => if b = true then .ok true μ1 else fu sd μ1 := rfl
@[simp] theorem e_not : dNot ft sd μ = (ft sd μ).bind fun b μ1 => .ok (!b) μ1 := rfl
@[simp] theorem e_andV : dAndV fa fb sd μ = (fa sd μ).bind fun d μ1 => (lift (asB d) μ1).bind fun b μ2 => if b = true then fb sd μ2 else .ok (.bool false) μ2 := rfl
@[simp] theorem e_orV : dOrV fa fb sd μ = (fa sd μ).bind fun d μ1 => (lift (asB d) μ1).bind fun b μ2 => if b = true then .ok (.bool true) μ2 else fb sd μ2 := rfl
@[simp] theorem e_notV : dNotV fa sd μ = (fa sd μ).bind fun d μ1 => (lift (asB d) μ1).bind fun b μ2 => .ok (.bool (!b)) μ2 := rfl
@[simp] theorem e_if : dIf ft fa fb sd μ = (ft sd μ).bind fun b μ1 => if b = true then fa sd μ1 else fb sd μ1 := rfl
@[simp] theorem e_chain : dChain fa fb fc sd μ = (fa sd μ).bind fun x μ1 => (fb sd μ1).bind fun y μ2 => (lift (pyLe x y) μ2).bind fun k μ3 => (lift (asB k) μ3).bind fun k μ4 => if k = true then (fc sd μ4).bind fun z μ5 => lift (pyLe y z) μ5 else .ok (.bool false) μ4 := by rfl
@[simp] theorem e_isi (T : String) : dIsi T fa sd μ = (fa sd μ).bind fun d μ1 => lift (isiB T d) μ1 := rfl
@[simp] theorem e_oNone : oNone sd μ = .ok none μ := rfl
@[simp] theorem e_oSome : oSome fa sd μ = (fa sd μ).bind fun d μ1 => (lift (asInt d) μ1).bind fun i μ2 => .ok (some i) μ2 := rfl
@[simp] theorem e_sl (fl fh : DO) : dSl fa fl fh sd μ = (fa sd μ).bind fun d μ1 => (fl sd μ1).bind fun lo μ2 => (fh sd μ2).bind fun hi μ3 => lift (pySl d lo hi) μ3 := rfl
@[simp] theorem e_list : lList fa sd μ = (fa sd μ).bind fun d μ1 => lift (asSeq d) μ1 := rfl
@[simp] theorem e_lRange : lRange fa sd μ = (fa sd μ).bind fun d μ1 => (lift ((asInt d).bind rgOk) μ1).bind fun n μ2 => .ok (rgD 0 n) μ2 := rfl
@[simp] theorem e_tupRg : dTupRg fa sd μ = (fa sd μ).bind fun d μ1 => (lift ((asInt d).bind rgOk) μ1).bind fun n μ2 => .ok (.tuple (rgD 0 n)) μ2 := rfl
@[simp] theorem e_iAny : iAny fa sd μ = (fa sd μ).bind fun d μ1 => lift (itemsOf d) μ1 := rfl
@[simp] theorem e_iRg1 : iRg1 fa sd μ = (fa sd μ).bind fun d μ1 => (lift ((asInt d).bind rgOk) μ1).bind fun n μ2 => .ok (rgD 0 n) μ2 := rfl
@[simp] theorem e_iRg2 : iRg2 fa fb sd μ = (fa sd μ).bind fun d μ1 => (fb sd μ1).bind fun e μ2 => (lift (rg2Ok d e) μ2).bind fun p μ3 => .ok (rgD p.1 p.2) μ3 := rfl
@[simp] theorem e_iEn : iEn fa sd μ = (fa sd μ).bind fun d μ1 => (lift (asSeq d) μ1).bind fun ds μ2 => .ok (enumD ds) μ2 := rfl
@[simp] theorem e_iZ2 : iZ2 fa fb sd μ = (fa sd μ).bind fun d μ1 => (fb sd μ1).bind fun e μ2 => lift (zip2Of d e) μ2 := rfl
@[simp] theorem e_iZ3 : iZ3 fa fb fc sd μ = (fa sd μ).bind fun d μ1 => (fb sd μ1).bind fun e μ2 => (fc sd μ2).bind fun f μ3 => lift (zip3Of d e f) μ3 := rfl
@[simp] theorem e_yes : dYes sd μ = .ok true μ := rfl
theorem e_lc (fi : DI) (tgt : DG) (vs : List Nat) : dLc fi tgt ft fa vs sd μ = (fi sd μ).bind fun ds μ1 => if ds.length ≤ 100000 then nx (lcLoop tgt ft fa (wipeD sd vs) ds μ1) else .bad := rfl
@[simp] theorem e_gN (d : D) : gN i d sd = some (sd.set i (some (.v d))) := rfl
@[simp] theorem e_g2 (d e : D) : g2 i j (.tuple [d, e]) sd = some ((sd.set i (some (.v d))).set j (some (.v e))) := rfl
@[simp] theorem e_g3 (d e u : D) : g3 i j k (.tuple [d, e, u]) sd = some (((sd.set i (some (.v d))).set j (some (.v e))).set k (some (.v u))) := rfl
@[simp] theorem e_g3L (d e u : D) : g3L i j k (.list [d, e, u]) sd = some (((sd.set i (some (.v d))).set j (some (.v e))).set k (some (.v u))) := rfl
/-! statements -/
variable {s s2 : DS} {fx fy : DX}
@[simp] theorem e_next : sNext sd μ = .ok (.next sd) μ := rfl
@[simp] theorem e_seq : sSeq s s2 sd μ = (s sd μ).bind (thenF s2) := rfl
@[simp] theorem e_then_next (sd' : Slots) : thenF s (.next sd') μ = s sd' μ := rfl
@[simp] theorem e_then_ret (d : D) : thenF s (.ret d) μ = .ok (.ret d) μ := rfl
@[simp] theorem e_xV : xV fa sd μ = (fa sd μ).bind fun d μ1 => .ok (.v d) μ1 := by
  unfold xV
  cases fa sd μ <;> rfl
@[simp] theorem e_xO (fl : DA) : xO fl sd μ = (fl sd μ).bind fun d μ1 => .ok (.own d) μ1 := by
  unfold xO
  cases fl sd μ <;> rfl
@[simp] theorem e_asg : sAsg i fx sd μ = (fx sd μ).bind fun s μ1 => .ok (.next (sd.set i (some s))) μ1 := rfl
@[simp] theorem e_unp (gt : DG) : sUnp gt fa sd μ = (fa sd μ).bind fun d μ1 => match gt d sd with
  | some sd' => .ok (.next sd') μ1
  | none => .bad := rfl
@[simp] theorem e_par : sPar i j fx fy sd μ = (fx sd μ).bind fun s μ1 => (fy sd μ1).bind fun r μ2 => .ok (.next ((sd.set i (some s)).set j (some r))) μ2 := rfl
@[simp] theorem e_ret : sRet fa sd μ = (fa sd μ).bind fun d μ1 => .ok (.ret d) μ1 := rfl
@[simp] theorem e_drop : sDrop fa sd μ = (fa sd μ).bind fun _ μ1 => .ok (.next sd) μ1 := rfl
@[simp] theorem e_sIf : sIf ft s s2 sd μ = (ft sd μ).bind fun b μ1 => if b = true then s sd μ1 else s2 sd μ1 := rfl
@[simp] theorem e_sFor (fi : DI) (tgt : DG) : sFor fi tgt s sd μ = (fi sd μ).bind fun ds μ1 => forLoop tgt s ds sd μ1 := rfl
@[simp] theorem e_raise (c : Nat) : sRaise c sd μ = .exc c μ := rfl
@[simp] theorem e_freeze : sFreeze i s sd μ = match sd[i]? with
  | some (some (.own xs)) => s (sd.set i (some (.v (.list xs)))) μ
  | _ => s sd μ := rfl
@[simp] theorem e_keep : sKeep i s sd μ = match sd[i]? with
  | some (some (.own xs)) => s (sd.set i (some (.v (tok μ.length)))) (μ ++ [.lst xs])
  | _ => .bad := rfl
@[simp] theorem e_app : sApp i fa sd μ = match sd[i]? with
  | some (some (.own xs)) => (fa sd μ).bind fun d μ1 => if xs.length < sizeLine then .ok (.next (sd.set i (some (.own (xs ++ [d]))))) μ1 else .bad
  | _ => .bad := rfl
end
/-! ### loops -/
/-- a comprehension that leaves the store: each item passes or not, and gives what f says -/
theorem lc_pure {tgt : DG} {ft : DT} {fe : DE} {sdw : Slots} {μ : Mu} (p : D → Bool) (f : D → D) : ∀ {ds : List D}, (∀ d ∈ ds, ∃ sd1, tgt d sdw = some sd1 ∧ ft sd1 μ = .ok (p d) μ ∧ (p d = true → fe sd1 μ = .ok (f d) μ)) →
    lcLoop tgt ft fe sdw ds μ = .ok ((ds.filter p).map f) μ
  | [], _ => rfl
  | d :: ds, h => by
    obtain ⟨sd1, h1, h2, h3⟩ := h d List.mem_cons_self
    have ih := lc_pure p f (ds := ds) fun e he => h e (List.mem_cons_of_mem _ he)
    unfold lcLoop
    rw [h1]
    simp only [h2, nx_ok, Res.bind_ok]
    cases e : p d with
    | true =>
      rw [if_pos rfl, h3 e]
      simp only [nx_ok, Res.bind_ok, ih]
      rw [List.filter_cons_of_pos e]
      rfl
    | false =>
      rw [if_neg Bool.false_ne_true, ih, List.filter_cons_of_neg (by rw [e]; exact Bool.false_ne_true)]
/-- .. at encoded items -/
theorem lc_enc {α : Type} (en : α → D) {tgt : DG} {ft : DT} {fe : DE} {sdw : Slots} {μ : Mu} (p : α → Bool) (f : α → D) : ∀ {xs : List α}, (∀ x ∈ xs, ∃ sd1, tgt (en x) sdw = some sd1 ∧ ft sd1 μ = .ok (p x) μ ∧ (p x = true → fe sd1 μ = .ok (f x) μ)) →
    lcLoop tgt ft fe sdw (xs.map en) μ = .ok ((xs.filter p).map f) μ
  | [], _ => rfl
  | d :: ds, h => by
    obtain ⟨sd1, h1, h2, h3⟩ := h d List.mem_cons_self
    have ih := lc_enc en p f (xs := ds) fun e he => h e (List.mem_cons_of_mem _ he)
    rw [List.map_cons]
    unfold lcLoop
    rw [h1]
    simp only [h2, nx_ok, Res.bind_ok]
    cases e : p d with
    | true =>
      rw [if_pos rfl, h3 e]
      simp only [nx_ok, Res.bind_ok, ih]
      rw [List.filter_cons_of_pos e]
      rfl
    | false =>
      rw [if_neg Bool.false_ne_true, ih, List.filter_cons_of_neg (by rw [e]; exact Bool.false_ne_true)]
/-- .. no test -/
theorem lc_map {α : Type} (en : α → D) {tgt : DG} {fe : DE} {sdw : Slots} {μ : Mu} (f : α → D) {xs : List α} (h : ∀ x ∈ xs, ∃ sd1, tgt (en x) sdw = some sd1 ∧ fe sd1 μ = .ok (f x) μ) :
    lcLoop tgt dYes fe sdw (xs.map en) μ = .ok (xs.map f) μ := by
  have z := lc_enc (ft := dYes) en (fun _ => true) f (tgt := tgt) (fe := fe) (sdw := sdw) (μ := μ) (xs := xs) fun x hx => let ⟨sd1, h1, h2⟩ := h x hx; ⟨sd1, h1, rfl, fun _ => h2⟩
  rw [List.filter_eq_self.mpr fun _ _ => rfl] at z
  exact z
/-- a loop that ends at its end -/
theorem for_all {tgt : DG} {fb : DS} (I : List D → Slots → Mu → Prop) (step : ∀ d r sd μ, I (d :: r) sd μ → ∃ sd1 sd2 μ2, tgt d sd = some sd1 ∧ fb sd1 μ = .ok (.next sd2) μ2 ∧ I r sd2 μ2) : ∀ {ds : List D} {sd : Slots} {μ : Mu}, I ds sd μ →
    ∃ sd' μ', forLoop tgt fb ds sd μ = .ok (.next sd') μ' ∧ I [] sd' μ'
  | [], sd, μ, h => ⟨sd, μ, rfl, h⟩
  | d :: ds, sd, μ, h => by
    obtain ⟨sd1, sd2, μ2, h1, h2, h3⟩ := step d ds sd μ h
    obtain ⟨sd', μ', h4, h5⟩ := for_all I step h3
    refine ⟨sd', μ', ?_, h5⟩
    unfold forLoop
    rw [h1]
    simp only [h2, Res.bind_ok, e_then_next, h4]
/-- a loop that may return -/
theorem for_ret {tgt : DG} {fb : DS} (I : List D → Slots → Mu → Prop) (P : D → Mu → Prop) (step : ∀ d r sd μ, I (d :: r) sd μ → ∃ sd1, tgt d sd = some sd1 ∧ ((∃ sd2 μ2, fb sd1 μ = .ok (.next sd2) μ2 ∧ I r sd2 μ2) ∨ ∃ v μ2, fb sd1 μ = .ok (.ret v) μ2 ∧ P v μ2)) : ∀ {ds : List D} {sd : Slots} {μ : Mu}, I ds sd μ →
    (∃ sd' μ', forLoop tgt fb ds sd μ = .ok (.next sd') μ' ∧ I [] sd' μ') ∨ ∃ v μ', forLoop tgt fb ds sd μ = .ok (.ret v) μ' ∧ P v μ'
  | [], sd, μ, h => .inl ⟨sd, μ, rfl, h⟩
  | d :: ds, sd, μ, h => by
    obtain ⟨sd1, h1, ⟨sd2, μ2, h2, h3⟩ | ⟨v, μ2, h2, h3⟩⟩ := step d ds sd μ h
    · rcases for_ret I P step h3 with ⟨sd', μ', h4, h5⟩ | ⟨v, μ', h4, h5⟩
      · refine .inl ⟨sd', μ', ?_, h5⟩
        unfold forLoop
        rw [h1]
        simp only [h2, Res.bind_ok, e_then_next, h4]
      · refine .inr ⟨v, μ', ?_, h5⟩
        unfold forLoop
        rw [h1]
        simp only [h2, Res.bind_ok, e_then_next, h4]
    · refine .inr ⟨v, μ2, ?_, h3⟩
      unfold forLoop
      rw [h1]
      simp only [h2, Res.bind_ok, e_then_ret]
/-- a loop over encoded items that changes nothing that is said, and may return -/
theorem for_enc {α : Type} (en : α → D) {tgt : DG} {fb : DS} {μ : Mu} (I : Slots → Prop) (p : α → Bool) (v : α → D) (step : ∀ x sd, I sd → ∃ sd1, tgt (en x) sd = some sd1 ∧ if p x = true then fb sd1 μ = .ok (.ret (v x)) μ else ∃ sd2, fb sd1 μ = .ok (.next sd2) μ ∧ I sd2) : ∀ {xs : List α} {sd : Slots}, I sd →
    match xs.find? p with
    | some x => forLoop tgt fb (xs.map en) sd μ = .ok (.ret (v x)) μ
    | none => ∃ sd', forLoop tgt fb (xs.map en) sd μ = .ok (.next sd') μ ∧ I sd'
  | [], sd, h => ⟨sd, rfl, h⟩
  | x :: xs, sd, h => by
    obtain ⟨sd1, h1, h2⟩ := step x sd h
    cases e : p x with
    | true =>
      rw [e, if_pos rfl] at h2
      rw [List.find?_cons_of_pos e]
      simp only [List.map_cons]
      unfold forLoop
      rw [h1]
      simp only [h2, Res.bind_ok, e_then_ret]
    | false =>
      rw [e, if_neg Bool.false_ne_true] at h2
      obtain ⟨sd2, h2, h3⟩ := h2
      have ih := for_enc en I p v step (xs := xs) h3
      rw [List.find?_cons_of_neg (by rw [e]; exact Bool.false_ne_true)]
      have q : forLoop tgt fb (List.map en (x :: xs)) sd μ = forLoop tgt fb (xs.map en) sd2 μ := by
        rw [List.map_cons]
        conv => lhs; unfold forLoop
        rw [h1]
        simp only [h2, Res.bind_ok, e_then_next]
      rw [q]
      exact ih
/-- .. of the members alone -/
theorem for_encM {α : Type} (en : α → D) {tgt : DG} {fb : DS} {μ : Mu} (I : Slots → Prop) (p : α → Bool) (v : α → D) : ∀ {xs : List α} (step : ∀ x ∈ xs, ∀ sd, I sd → ∃ sd1, tgt (en x) sd = some sd1 ∧ if p x = true then fb sd1 μ = .ok (.ret (v x)) μ else ∃ sd2, fb sd1 μ = .ok (.next sd2) μ ∧ I sd2) {sd : Slots}, I sd →
    match xs.find? p with
    | some x => forLoop tgt fb (xs.map en) sd μ = .ok (.ret (v x)) μ
    | none => ∃ sd', forLoop tgt fb (xs.map en) sd μ = .ok (.next sd') μ ∧ I sd'
  | [], _, sd, h => ⟨sd, rfl, h⟩
  | x :: xs, step, sd, h => by
    obtain ⟨sd1, h1, h2⟩ := step x List.mem_cons_self sd h
    cases e : p x with
    | true =>
      rw [e, if_pos rfl] at h2
      rw [List.find?_cons_of_pos e]
      simp only [List.map_cons]
      unfold forLoop
      rw [h1]
      simp only [h2, Res.bind_ok, e_then_ret]
    | false =>
      rw [e, if_neg Bool.false_ne_true] at h2
      obtain ⟨sd2, h2, h3⟩ := h2
      have ih := for_encM en I p v (xs := xs) (fun y hy => step y (List.mem_cons_of_mem _ hy)) h3
      rw [List.find?_cons_of_neg (by rw [e]; exact Bool.false_ne_true)]
      have q : forLoop tgt fb (List.map en (x :: xs)) sd μ = forLoop tgt fb (xs.map en) sd2 μ := by
        rw [List.map_cons]
        conv => lhs; unfold forLoop
        rw [h1]
        simp only [h2, Res.bind_ok, e_then_next]
      rw [q]
      exact ih
/-- .. as two cases -/
theorem for_encC {α : Type} (en : α → D) {tgt : DG} {fb : DS} {μ : Mu} (I : Slots → Prop) (p : α → Bool) (v : D) {xs : List α} (step : ∀ x ∈ xs, ∀ sd, I sd → ∃ sd1, tgt (en x) sd = some sd1 ∧ if p x = true then fb sd1 μ = .ok (.ret v) μ else ∃ sd2, fb sd1 μ = .ok (.next sd2) μ ∧ I sd2) {sd : Slots} (h : I sd) :
    if xs.any p = true then forLoop tgt fb (xs.map en) sd μ = .ok (.ret v) μ else ∃ sd', forLoop tgt fb (xs.map en) sd μ = .ok (.next sd') μ ∧ I sd' := by
  have z := for_encM en I p (fun _ => v) step h
  cases e : xs.find? p with
  | some x =>
    rw [e] at z
    rw [if_pos (List.any_eq_true.mpr ⟨x, List.mem_of_find?_eq_some e, List.find?_some e⟩)]
    exact z
  | none =>
    rw [e] at z
    rw [if_neg fun q => by
      obtain ⟨x, hx, px⟩ := List.any_eq_true.mp q
      exact (List.find?_eq_none.mp e) x hx px]
    exact z
/-- a loop that appends one thing a turn -/
theorem for_push {α : Type} (en : α → D) {tgt : DG} {fb : DS} {μ : Mu} (S : List D → Slots → Prop) (f : α → D) : ∀ {xs : List α} (step : ∀ x ∈ xs, ∀ L sd, S L sd → L.length < 1000 → ∃ sd1 sd2, tgt (en x) sd = some sd1 ∧ fb sd1 μ = .ok (.next sd2) μ ∧ S (L ++ [f x]) sd2) {L : List D} {sd : Slots}, S L sd → L.length + xs.length ≤ 1000 →
    ∃ sd', forLoop tgt fb (xs.map en) sd μ = .ok (.next sd') μ ∧ S (L ++ xs.map f) sd'
  | [], _, L, sd, h, _ => ⟨sd, rfl, by simpa using h⟩
  | x :: xs, step, L, sd, h, hl => by
    rw [List.length_cons] at hl
    obtain ⟨sd1, sd2, h1, h2, h3⟩ := step x List.mem_cons_self L sd h (by omega)
    obtain ⟨sd', h4, h5⟩ := for_push en S f (xs := xs) (fun y hy => step y (List.mem_cons_of_mem _ hy)) h3 (by rw [List.length_append, List.length_cons, List.length_nil]; omega)
    refine ⟨sd', ?_, ?_⟩
    · rw [List.map_cons]
      unfold forLoop
      rw [h1]
      simp only [h2, Res.bind_ok, e_then_next, h4]
    · rw [List.map_cons]
      have e : L ++ [f x] ++ xs.map f = L ++ f x :: xs.map f := by simp
      rw [← e]
      exact h5
end DL

set_option maxHeartbeats 4000000
/-! OLMir1: what the defs of the module bids compute, at numbers. -/
namespace OL
open PySem DL
abbrev nD (i : Nat) : D := .int (i : Int)
abbrev iT (b : List Int) : D := .tuple (b.map .int)
theorem rg0 (n : Int) : rgD 0 n = (List.range n.toNat).map nD := by
  unfold rgD nD
  rw [Int.sub_zero]
  exact List.map_congr_left fun i _ => by rw [Int.zero_add]
theorem rg0n (n : Nat) : rgD 0 (n : Int) = (List.range n).map nD := by rw [rg0]; rfl
theorem rgOk_nat {n : Nat} (h : n ≤ 100000) : rgOk (n : Int) = some (n : Int) := by
  unfold rgOk
  rw [if_pos ⟨by omega, by omega⟩]
theorem fn_ret {n : Nat} {fb : DS} {ds : List D} {μ μ' : Mu} {d : D} (h : fb (ds.map (fun d => some (.v d)) ++ List.replicate (n - ds.length) none) μ = .ok (.ret d) μ') : fnD n fb ds μ = .ok d μ' := by
  unfold fnD
  rw [h]
  rfl
theorem fn_next {n : Nat} {fb : DS} {ds : List D} {μ μ' : Mu} {sd : Slots} (h : fb (ds.map (fun d => some (.v d)) ++ List.replicate (n - ds.length) none) μ = .ok (.next sd) μ') : fnD n fb ds μ = .ok .none μ' := by
  unfold fnD
  rw [h]
  rfl
/-! ### operators at numbers -/
section
variable {i j : Int}
theorem eqvI : PyData.eqv (unscr (.int i)) (unscr (.int j)) = decide (i = j) := by
  show PyData.eqv (.int i) (.int j) = _
  by_cases h : i = j <;> simp [PyData.eqv, h]
@[simp] theorem p_add : pyAdd (.int i) (.int j) = some (.int (i + j)) := rfl
@[simp] theorem p_sub : pySub (.int i) (.int j) = some (.int (i - j)) := rfl
@[simp] theorem p_lt : pyLt (.int i) (.int j) = some (.bool (decide (i < j))) := rfl
@[simp] theorem p_le : pyLe (.int i) (.int j) = some (.bool (decide (i ≤ j))) := rfl
@[simp] theorem p_gt : pyGt (.int i) (.int j) = some (.bool (decide (j < i))) := rfl
@[simp] theorem p_ge : pyGe (.int i) (.int j) = some (.bool (decide (j ≤ i))) := rfl
@[simp] theorem p_eq : pyEq (.int i) (.int j) = some (.bool (decide (i = j))) := by
  unfold pyEq
  rw [if_pos ⟨rfl, rfl⟩, eqvI]
@[simp] theorem p_ne : pyNe (.int i) (.int j) = some (.bool (!decide (i = j))) := by
  unfold pyNe
  rw [if_pos ⟨rfl, rfl⟩, eqvI]
@[simp] theorem a_b (b : Bool) : asB (.bool b) = some b := rfl
@[simp] theorem a_i : asInt (.int i) = some i := rfl
@[simp] theorem i_l (xs : List D) : itemsOf (.list xs) = some xs := rfl
@[simp] theorem i_t (xs : List D) : itemsOf (.tuple xs) = some xs := rfl
@[simp] theorem s_l (xs : List D) : asSeq (.list xs) = some xs := rfl
@[simp] theorem s_t (xs : List D) : asSeq (.tuple xs) = some xs := rfl
@[simp] theorem isi_ii : isiB "int" (.int i) = some (.bool true) := by first | rfl | decide
@[simp] theorem isi_bi : isiB "bool" (.int i) = some (.bool false) := by first | rfl | decide
@[simp] theorem isi_tt (xs : List D) : isiB "tuple" (.tuple xs) = some (.bool true) := by first | rfl | decide
@[simp] theorem l_t (xs : List D) (μ : Mu) : pyLen [.tuple xs] μ = some (.int xs.length) := rfl
@[simp] theorem l_l (xs : List D) (μ : Mu) : pyLen [.list xs] μ = some (.int xs.length) := rfl
@[simp] theorem x_t (xs : List D) : pyIx (.tuple xs) (.int i) = L2.atI xs i := rfl
@[simp] theorem x_l (xs : List D) : pyIx (.list xs) (.int i) = L2.atI xs i := rfl
theorem at_nat {α : Type} (xs : List α) (k : Nat) : L2.atI xs (k : Int) = xs[k]? := by
  unfold L2.atI L2.ixN
  rw [if_pos (by omega)]
  by_cases h : (k : Int) < xs.length
  · rw [if_pos h]; simp
  · rw [if_neg h, List.getElem?_eq_none (by omega)]; rfl
@[simp] theorem at_map (b : List Int) (k : Nat) : L2.atI (b.map PyData.int) (k : Int) = (b[k]?).map .int := by rw [at_nat, List.getElem?_map]
end
/-! ### is_integer -/
@[simp] theorem m_is_integer (v lo hi : Int) (μ : Mu) : F_is_integer [.int v, .int lo, .int hi] μ = .ok (.bool (decide (lo ≤ v ∧ v ≤ hi))) μ := by
  refine fn_ret ?_
  by_cases h : lo ≤ v
  · by_cases h2 : v ≤ hi <;> simp [D_is_integer, h, h2]
  · simp [D_is_integer, h]
/-! ### things_in -/
def tI (s : Nat) : List Nat := (List.range 3).filter fun t => decide (s / 2 ^ t % 2 = 1)
theorem pDiv {i j : Int} (h : 0 < j) (h2 : j < 1073741824) : pyDiv (.int i) (.int j) = some (.int (i / j)) := by
  unfold pyDiv
  exact if_pos ⟨h, h2⟩
theorem pMod {i j : Int} (h : 0 < j) : pyMod (.int i) (.int j) = some (.int (i % j)) := by
  unfold pyMod
  exact if_pos h
theorem sz_at {t : Nat} (h : t < 3) : L2.atI [PyData.int 2, .int 4, .int 8] (t : Int) = some (.int ((2 ^ (t + 1) : Nat) : Int)) := by
  rcases t with _ | _ | _ | t
  · rfl
  · rfl
  · rfl
  · omega
theorem sz_half {t : Nat} (h : t < 3) : (((2 ^ (t + 1) : Nat) : Int)) / 2 = ((2 ^ t : Nat) : Int) := by
  rcases t with _ | _ | _ | t
  · rfl
  · rfl
  · rfl
  · omega
theorem two_pos {t : Nat} (h : t < 3) : (0 : Int) < ((2 ^ t : Nat) : Int) ∧ ((2 ^ t : Nat) : Int) < 1073741824 := by
  rcases t with _ | _ | _ | t
  · decide
  · decide
  · decide
  · omega
@[simp] theorem m_things_in (s : Nat) (μ : Mu) : F_things_in [nD s] μ = .ok (.list ((tI s).map nD)) μ := by
  refine fn_ret ?_
  have e : lcLoop (gN 1) (dTest (dBin pyEq (dBin pyMod (dBin pyDiv (dVar 0) (dBin pyDiv (dBin pyIx (dC k_SIZES) (dVar 1)) (dC (.int 2)))) (dC (.int 2))) (dC (.int 1)))) (dVar 1) [some (.v (nD s)), none] ((List.range 3).map nD) μ = .ok ((tI s).map nD) μ := by
    refine lc_enc nD (fun t => decide (s / 2 ^ t % 2 = 1)) nD fun t ht => ⟨_, rfl, ?_, fun _ => by simp⟩
    have ht : t < 3 := List.mem_range.mp ht
    have h2 := two_pos ht
    simp only [e_test, e_bin, e_var, e_c, List.set_cons_succ, List.set_cons_zero, List.getElem?_cons_succ, List.getElem?_cons_zero, Res.bind_ok, x_t, sz_at ht, lift_some, pDiv (show (0:Int) < 2 by decide) (show (2:Int) < 1073741824 by decide), sz_half ht, pDiv h2.1 h2.2, pMod (show (0:Int) < 2 by decide), p_eq, a_b]
    congr 1
    rw [decide_eq_decide]
    omega
  have r3 : rgD 0 3 = (List.range 3).map nD := rg0n 3
  have r3' : rgOk 3 = some 3 := rfl
  simp only [D_things_in, e_ret, e_share, e_lc, e_iRg1, e_c, Res.bind_ok, a_i, Option.bind_some, r3', lift_some, r3]
  rw [if_pos (by decide)]
  show ((nx (lcLoop _ _ _ [some (.v (nD s)), none] _ μ)).bind _).bind _ = _
  rw [e]
  rfl
/-! ### shapes; equality of encoded things -/
structure Lay (k : Nat) (d : D) : Prop where
  can : d.canLay0 = true
  dep : d.depth ≤ k
theorem Lay.int (i : Int) : Lay 0 (.int i) := ⟨rfl, by simp [PyData.depth]⟩
theorem Lay.none : Lay 0 .none := ⟨rfl, by simp [PyData.depth]⟩
theorem Lay.bool (b : Bool) : Lay 0 (.bool b) := ⟨rfl, by simp [PyData.depth]⟩
theorem layAll {k : Nat} : ∀ {xs : List D}, (∀ x ∈ xs, Lay k x) → PyData.canLayAll0 xs = true ∧ PyData.depthAll xs ≤ k
  | [], _ => ⟨rfl, by simp [PyData.depthAll]⟩
  | x :: xs, h => by
    have h1 := h x List.mem_cons_self
    have h2 := layAll (xs := xs) fun y hy => h y (List.mem_cons_of_mem _ hy)
    have d1 := h1.dep
    constructor
    · simp only [PyData.canLayAll0, h1.can, h2.1, Bool.and_self]
    · simp only [PyData.depthAll]
      omega
theorem Lay.list {k : Nat} {xs : List D} (h : ∀ x ∈ xs, Lay k x) : Lay (k + 1) (.list xs) := by
  have z := layAll h
  refine ⟨by simp only [PyData.canLay0, z.1], ?_⟩
  simp only [PyData.depth]
  omega
theorem Lay.tuple {k : Nat} {xs : List D} (h : ∀ x ∈ xs, Lay k x) : Lay (k + 1) (.tuple xs) := by
  have z := layAll h
  refine ⟨by simp only [PyData.canLay0, z.1], ?_⟩
  simp only [PyData.depth]
  omega
theorem Lay.shaped {k : Nat} {d : D} (h : Lay k d) (hk : k ≤ 64 := by decide) : SeqAt.shaped d = true := by
  have z := h.dep
  simp only [SeqAt.shaped, h.can, Bool.true_and, decide_eq_true_eq]
  omega
theorem Lay.ints (b : List Int) : ∀ x ∈ b.map PyData.int, Lay 0 x := fun x hx => by
  obtain ⟨i, _, rfl⟩ := List.mem_map.mp hx
  exact .int i
theorem Lay.nats (b : List Nat) : ∀ x ∈ b.map nD, Lay 0 x := fun x hx => by
  obtain ⟨i, _, rfl⟩ := List.mem_map.mp hx
  exact .int _
theorem Lay.rows (b : List (List Int)) : ∀ x ∈ b.map iT, Lay 1 x := fun x hx => by
  obtain ⟨i, _, rfl⟩ := List.mem_map.mp hx
  exact .tuple (Lay.ints i)
theorem eqv_ints : ∀ a b : List Int, PyData.eqvAll (a.map .int) (b.map .int) = decide (a = b)
  | [], [] => by simp [PyData.eqvAll]
  | [], _ :: _ => by simp [PyData.eqvAll]
  | _ :: _, [] => by simp [PyData.eqvAll]
  | x :: a, y :: b => by
    simp only [List.map_cons, PyData.eqvAll, eqv_ints a b, PyData.eqv]
    by_cases h1 : x = y <;> by_cases h2 : a = b <;> simp [h1, h2]
theorem eqv_rows : ∀ a b : List (List Int), PyData.eqvAll (a.map iT) (b.map iT) = decide (a = b)
  | [], [] => by simp [PyData.eqvAll]
  | [], _ :: _ => by simp [PyData.eqvAll]
  | _ :: _, [] => by simp [PyData.eqvAll]
  | x :: a, y :: b => by
    simp only [List.map_cons, PyData.eqvAll, eqv_rows a b, PyData.eqv, eqv_ints]
    by_cases h1 : x = y <;> by_cases h2 : a = b <;> simp [h1, h2]
abbrev iL (b : List Int) : D := .list (b.map .int)
abbrev rL (b : List (List Int)) : D := .list (b.map iT)
abbrev rT (b : List (List Int)) : D := .tuple (b.map iT)
theorem pe_iL (a b : List Int) : pyEq (iL a) (iL b) = some (.bool (decide (a = b))) := by
  unfold pyEq
  rw [if_pos ⟨(Lay.list (Lay.ints a)).shaped, (Lay.list (Lay.ints b)).shaped⟩]
  show some (PyData.bool (PyData.eqv (iL a) (iL b))) = _
  simp only [PyData.eqv, eqv_ints]
theorem pn_iL (a b : List Int) : pyNe (iL a) (iL b) = some (.bool (!decide (a = b))) := by
  unfold pyNe
  rw [if_pos ⟨(Lay.list (Lay.ints a)).shaped, (Lay.list (Lay.ints b)).shaped⟩]
  show some (PyData.bool (!PyData.eqv (iL a) (iL b))) = _
  simp only [PyData.eqv, eqv_ints]
theorem pe_iT (a b : List Int) : pyEq (iT a) (iT b) = some (.bool (decide (a = b))) := by
  unfold pyEq
  rw [if_pos ⟨(Lay.tuple (Lay.ints a)).shaped, (Lay.tuple (Lay.ints b)).shaped⟩]
  show some (PyData.bool (PyData.eqv (iT a) (iT b))) = _
  simp only [PyData.eqv, eqv_ints]
theorem pn_iT (a b : List Int) : pyNe (iT a) (iT b) = some (.bool (!decide (a = b))) := by
  unfold pyNe
  rw [if_pos ⟨(Lay.tuple (Lay.ints a)).shaped, (Lay.tuple (Lay.ints b)).shaped⟩]
  show some (PyData.bool (!PyData.eqv (iT a) (iT b))) = _
  simp only [PyData.eqv, eqv_ints]
theorem pe_rL (a b : List (List Int)) : pyEq (rL a) (rL b) = some (.bool (decide (a = b))) := by
  unfold pyEq
  rw [if_pos ⟨(Lay.list (Lay.rows a)).shaped, (Lay.list (Lay.rows b)).shaped⟩]
  show some (PyData.bool (PyData.eqv (rL a) (rL b))) = _
  simp only [PyData.eqv, eqv_rows]
theorem pn_rL (a b : List (List Int)) : pyNe (rL a) (rL b) = some (.bool (!decide (a = b))) := by
  unfold pyNe
  rw [if_pos ⟨(Lay.list (Lay.rows a)).shaped, (Lay.list (Lay.rows b)).shaped⟩]
  show some (PyData.bool (!PyData.eqv (rL a) (rL b))) = _
  simp only [PyData.eqv, eqv_rows]
theorem pe_b (a b : Bool) : pyEq (.bool a) (.bool b) = some (.bool (decide (a = b))) := by
  cases a <;> cases b <;> rfl
theorem pn_b (a b : Bool) : pyNe (.bool a) (.bool b) = some (.bool (!decide (a = b))) := by
  cases a <;> cases b <;> rfl
theorem any_nD (t : Nat) : ∀ l : List Nat, ((l.map nD).any fun z => PyData.eqv z (nD t)) = decide (t ∈ l)
  | [] => by simp
  | x :: l => by
    rw [List.map_cons, List.any_cons, any_nD t l]
    simp only [nD, PyData.eqv, List.mem_cons]
    by_cases h : x = t
    · simp [h]
    · have h' : ¬ ((x : Int) = (t : Int)) := by omega
      simp [h', Ne.symm h]
theorem pyIn0_list (d : D) (ds : List D) : pyIn0 d (.list ds) = if SeqAt.shaped d = true ∧ SeqAt.shaped (.list ds) = true then some (ds.any fun z => PyData.eqv z d) else none := by
  cases d <;> rfl
theorem in_nL (t : Nat) (l : List Nat) : pyIn0 (nD t) (.list (l.map nD)) = some (decide (t ∈ l)) := by
  rw [pyIn0_list, if_pos ⟨(Lay.int _).shaped, (Lay.list (Lay.nats l)).shaped⟩, any_nD]
@[simp] theorem p_in (t : Nat) (l : List Nat) : pyIn (nD t) (.list (l.map nD)) = some (.bool (decide (t ∈ l))) := by
  unfold pyIn
  rw [in_nL]
  rfl
@[simp] theorem p_notIn (t : Nat) (l : List Nat) : pyNotIn (nD t) (.list (l.map nD)) = some (.bool (!decide (t ∈ l))) := by
  unfold pyNotIn
  rw [in_nL]
  rfl
/-! ### rises -/
/-- the set s and the thing t: one more thing is worth less -/
def falls (b : List Int) (s t : Nat) : Bool := decide (2 ^ t < b.length) && (!decide (t ∈ tI s) && decide (b.getD (s + 2 ^ t) 0 < b.getD s 0))
def risesB (b : List Int) : Bool := (List.range b.length).all fun s => (List.range 3).all fun t => !falls b s t
theorem up_in {n : Nat} (hn : n = 2 ∨ n = 4 ∨ n = 8) {s t : Nat} (hs : s < n) (ht : t < 3) (hp : 2 ^ t < n) (h : t ∉ tI s) : s + 2 ^ t < n := by
  have z : ∀ n ∈ [2, 4, 8], ∀ s ∈ List.range n, ∀ t ∈ List.range 3, 2 ^ t < n → t ∉ tI s → s + 2 ^ t < n := by decide +kernel
  exact z n (by simpa using hn) s (List.mem_range.mpr hs) t (List.mem_range.mpr ht) hp h
theorem getD_of {b : List Int} {k : Nat} (h : k < b.length) : b[k]? = some (b.getD k 0) := by
  rw [List.getElem?_eq_getElem h, List.getD_eq_getElem?_getD, List.getElem?_eq_getElem h]
  rfl
def B_rises : DS := (sSeq (sAsg 3 (xV (dBin pyDiv (dBin pyIx (dC k_SIZES) (dVar 2)) (dC (.int 2)))))
    (sIf (dAnd (dTest (dBin pyLt (dVar 3) (dCB pyLen (aCons (dVar 0) aNil)))) (dAnd (dTest (dBin pyNotIn (dVar 2) (dCall F_things_in (aCons (dVar 1) aNil)))) (dTest (dBin pyGt (dBin pyIx (dVar 0) (dVar 1)) (dBin pyIx (dVar 0) (dBin pyAdd (dVar 1) (dVar 3))))))) (sRet (dC (.bool false))) sNext))
theorem rises_inner {b : List Int} (hn : b.length = 2 ∨ b.length = 4 ∨ b.length = 8) {s : Nat} (hs : s < b.length) (μ : Mu) (sd : Slots) (h : ∃ x y, sd = [some (.v (iT b)), some (.v (nD s)), x, y]) :
    if (List.range 3).any (falls b s) = true then forLoop (gN 2) B_rises ((List.range 3).map nD) sd μ = .ok (.ret (.bool false)) μ else ∃ sd', forLoop (gN 2) B_rises ((List.range 3).map nD) sd μ = .ok (.next sd') μ ∧ ∃ x y, sd' = [some (.v (iT b)), some (.v (nD s)), x, y] := by
  refine for_encC (tgt := gN 2) (fb := B_rises) nD (fun sd => ∃ x y, sd = [some (.v (iT b)), some (.v (nD s)), x, y]) (falls b s) (.bool false) (fun t ht sd ⟨x, y, e⟩ => ⟨_, rfl, ?_⟩) h
  unfold B_rises
  subst e
  have ht : t < 3 := List.mem_range.mp ht
  have h2 := two_pos ht
  have pw : ∀ (z : Option Sl), (sAsg 3 (xV (dBin pyDiv (dBin pyIx (dC k_SIZES) (dVar 2)) (dC (.int 2))))) [some (.v (iT b)), some (.v (nD s)), some (.v (nD t)), z] μ = .ok (.next [some (.v (iT b)), some (.v (nD s)), some (.v (nD t)), some (.v (nD (2 ^ t)))]) μ := fun z => by
    simp only [e_asg, e_xV, e_bin, e_c, e_var, List.getElem?_cons_succ, List.getElem?_cons_zero, Res.bind_ok, x_t, sz_at ht, lift_some, pDiv (show (0:Int) < 2 by decide) (show (2:Int) < 1073741824 by decide), sz_half ht, List.set_cons_succ, List.set_cons_zero]
  simp only [List.set_cons_succ, List.set_cons_zero, e_seq, pw, Res.bind_ok, e_then_next, e_sIf, e_and, e_test, e_bin, e_var, e_cb, e_aCons, e_aNil, e_call, List.getElem?_cons_succ, List.getElem?_cons_zero, l_t, lift_some, p_lt, a_b, List.length_map, m_things_in, p_notIn]
  by_cases c1 : 2 ^ t < b.length
  · have c1' : ((2 ^ t : Nat) : Int) < (b.length : Int) := by omega
    by_cases c2 : t ∈ tI s
    · have hf : falls b s t = false := by
        unfold falls
        rw [decide_eq_true c1, decide_eq_true c2]
        rfl
      simp only [hf, decide_eq_true c1', decide_eq_true c2, Bool.not_true, if_true, if_neg Bool.false_ne_true, Res.bind_ok, lift_some, a_b, e_next]
      exact ⟨_, rfl, _, _, rfl⟩
    · have hi := up_in hn hs ht c1 c2
      have g1 : L2.atI (b.map PyData.int) ((s : Int) + ((2 ^ t : Nat) : Int)) = some (.int (b.getD (s + 2 ^ t) 0)) := by
        rw [show (s : Int) + ((2 ^ t : Nat) : Int) = ((s + 2 ^ t : Nat) : Int) by omega, at_map, getD_of hi]
        rfl
      have g0 : L2.atI (b.map PyData.int) (s : Int) = some (.int (b.getD s 0)) := by
        rw [at_map, getD_of hs]
        rfl
      have hf : falls b s t = decide (b.getD (s + 2 ^ t) 0 < b.getD s 0) := by
        unfold falls
        rw [decide_eq_true c1, decide_eq_false c2]
        rfl
      simp only [hf, decide_eq_true c1', decide_eq_false c2, Bool.not_false, if_true, Res.bind_ok, x_t, g0, g1, p_add, lift_some, p_gt, a_b]
      by_cases c3 : b.getD (s + 2 ^ t) 0 < b.getD s 0
      · simp only [decide_eq_true c3, if_true, e_ret, e_c, Res.bind_ok]
      · simp only [decide_eq_false c3, if_neg Bool.false_ne_true, e_next]
        exact ⟨_, rfl, _, _, rfl⟩
  · have c1' : ¬ ((2 ^ t : Nat) : Int) < (b.length : Int) := by omega
    have hf : falls b s t = false := by
      unfold falls
      rw [decide_eq_false c1]
      rfl
    simp only [hf, decide_eq_false c1', if_neg Bool.false_ne_true, Res.bind_ok, e_next]
    exact ⟨_, rfl, _, _, rfl⟩
theorem any_not {α : Type} (p : α → Bool) (l : List α) : (l.any p) = !(l.all fun x => !p x) := by
  induction l with
  | nil => rfl
  | cons x l ih => rw [List.any_cons, List.all_cons, ih]; cases p x <;> simp
@[simp] theorem m_rises {b : List Int} (hn : b.length = 2 ∨ b.length = 4 ∨ b.length = 8) (μ : Mu) : F_rises [iT b] μ = .ok (.bool (risesB b)) μ := by
  have z := for_encC (μ := μ) (tgt := gN 1) (fb := sFor (iRg1 (dC (.int 3))) (gN 2) B_rises) nD (fun sd => ∃ u x y, sd = [some (.v (iT b)), u, x, y]) (fun s => (List.range 3).any (falls b s)) (.bool false) (xs := List.range b.length) (fun s hs sd ⟨u, x, y, e⟩ => ⟨_, rfl, by
    subst e
    have hs : s < b.length := List.mem_range.mp hs
    have q := rises_inner hn hs μ [some (.v (iT b)), some (.v (nD s)), x, y] ⟨x, y, rfl⟩
    have r3 : rgD 0 3 = (List.range 3).map nD := rg0n 3
    have r3' : rgOk 3 = some 3 := rfl
    simp only [List.set_cons_succ, List.set_cons_zero, e_sFor, e_iRg1, e_c, Res.bind_ok, a_i, Option.bind_some, r3', lift_some, r3]
    cases c : (List.range 3).any (falls b s) with
    | true => rw [c, if_pos rfl] at q; rw [if_pos rfl]; exact q
    | false =>
      rw [c, if_neg Bool.false_ne_true] at q
      rw [if_neg Bool.false_ne_true]
      obtain ⟨sd', h1, x', y', h2⟩ := q
      exact ⟨sd', h1, _, x', y', h2⟩⟩) (sd := [some (.v (iT b)), none, none, none]) ⟨_, _, _, rfl⟩
  have hl : rgOk (b.length : Int) = some (b.length : Int) := rgOk_nat (by rcases hn with h | h | h <;> omega)
  have e1 : D_rises [some (.v (iT b)), none, none, none] μ = (forLoop (gN 1) (sFor (iRg1 (dC (.int 3))) (gN 2) B_rises) ((List.range b.length).map nD) [some (.v (iT b)), none, none, none] μ).bind (thenF (sRet (dC (.bool true)))) := by
    have e0 : D_rises = sSeq (sFor (iRg1 (dCB pyLen (aCons (dVar 0) aNil))) (gN 1) (sFor (iRg1 (dC (.int 3))) (gN 2) B_rises)) (sRet (dC (.bool true))) := rfl
    rw [e0]
    generalize sFor (iRg1 (dC (.int 3))) (gN 2) B_rises = bb
    simp only [e_seq, e_sFor, e_iRg1, e_cb, e_aCons, e_aNil, e_var, List.getElem?_cons_zero, Res.bind_ok, l_t, List.length_map, lift_some, a_i, Option.bind_some, hl, rg0n]
  unfold risesB
  refine fn_ret (show D_rises [some (.v (iT b)), none, none, none] μ = _ from ?_)
  rw [e1]
  have ea := any_not (fun s => (List.range 3).any (falls b s)) (List.range b.length)
  have eb : (fun x => !(List.range 3).any (falls b x)) = fun s => (List.range 3).all fun t => !falls b s t := by
    funext s
    rw [any_not, Bool.not_not]
  rw [eb] at ea
  rw [ea] at z
  cases c : (List.range b.length).all fun s => (List.range 3).all fun t => !falls b s t with
  | true =>
    rw [c, if_neg (by decide)] at z
    obtain ⟨sd', h1, _⟩ := z
    rw [h1]
    rfl
  | false =>
    rw [c, if_pos (by rfl)] at z
    rw [z]
    rfl
/-! ### bids_for -/
def bidB (n : Nat) (b : List Int) : Bool := decide (b.length = n) && ((b.all fun x => decide (0 ≤ x ∧ x ≤ 9)) && (decide (b.getD 0 0 = 0) && risesB b))
theorem asBls_map' {α : Type} (f : α → Bool) (l : List α) : asBls (l.map fun x => PyData.bool (f x)) = some (l.map f) := by
  have z := asBls_of (l.map f)
  rw [List.map_map] at z
  exact z
theorem all_map' {α : Type} (f : α → Bool) (l : List α) (μ : Mu) : pyAll [.list (l.map fun x => PyData.bool (f x))] μ = some (.bool (l.all f)) := by
  show (asBls (l.map fun x => PyData.bool (f x))).map (fun bs => PyData.bool (bs.all id)) = _
  rw [asBls_map', Option.map_some, List.all_map]
  rfl
@[simp] theorem m_bids_for {n : Nat} (hn : n = 2 ∨ n = 4 ∨ n = 8) (b : List Int) (hb : b.length ≤ 100000) (μ : Mu) : F_bids_for [iT b, nD n] μ = .ok (.bool (bidB n b)) μ := by
  refine fn_ret (show D_bids_for [some (.v (iT b)), some (.v (nD n)), none] μ = _ from ?_)
  have e : ∀ sd, dLc (iAny (dVar 0)) (gN 2) dYes (dCall F_is_integer (aCons (dVar 2) (aCons (dC (.int 0)) (aCons (dC (.int 9)) aNil)))) [2] [some (.v (iT b)), some (.v (nD n)), sd] μ = .ok (b.map fun x => .bool (decide (0 ≤ x ∧ x ≤ 9))) μ := fun sd => by
    have z := lc_map (μ := μ) (tgt := gN 2) (fe := dCall F_is_integer (aCons (dVar 2) (aCons (dC (.int 0)) (aCons (dC (.int 9)) aNil)))) (sdw := [some (.v (iT b)), some (.v (nD n)), none]) PyData.int (fun x => PyData.bool (decide (0 ≤ x ∧ x ≤ 9))) (xs := b) fun x hx => ⟨_, rfl, by simp⟩
    simp only [e_lc, e_iAny, e_var, List.getElem?_cons_zero, Res.bind_ok, i_t, lift_some]
    rw [if_pos (by simpa using hb)]
    show nx (lcLoop _ _ _ [some (.v (iT b)), some (.v (nD n)), none] _ μ) = _
    rw [z]
    rfl
  unfold D_bids_for bidB
  simp only [e_seq, e_sIf, e_or, e_not, e_test, e_isi, e_var, List.getElem?_cons_succ, List.getElem?_cons_zero, Res.bind_ok, isi_tt, lift_some, a_b, Bool.not_true, Bool.false_eq_true, if_false, e_bin, e_cb, e_aCons, e_aNil, l_t, List.length_map, p_ne, e_share, e, all_map']
  by_cases c1 : b.length = n
  · have c1' : (b.length : Int) = (n : Int) := by omega
    have h0 : 0 < b.length := by rcases hn with h | h | h <;> omega
    have g0 : L2.atI (b.map PyData.int) 0 = some (.int (b.getD 0 0)) := by
      have := at_map b 0
      rw [getD_of h0] at this
      exact this
    simp only [c1, c1', decide_true, Bool.not_true, Bool.false_eq_true, if_false, Res.bind_ok]
    cases c2 : b.all fun x => decide (0 ≤ x ∧ x ≤ 9) with
    | false => simp
    | true =>
      simp only [Bool.not_true, Bool.false_eq_true, if_false, e_next, Res.bind_ok, e_then_next, e_ret, e_andV, e_bin, e_var, e_c, List.getElem?_cons_zero, x_t, g0, lift_some, p_eq, a_b, e_call, e_aCons, e_aNil, m_rises (c1 ▸ hn), Bool.true_and]
      generalize b.getD 0 0 = z0
      by_cases c3 : z0 = 0 <;> simp [c3]
  · have c1' : ¬ (b.length : Int) = (n : Int) := by omega
    simp [c1, c1']
/-! ### is_room, check_room -/
def roomN (n : Nat) (r : List (List Int)) : Bool := r.all (bidB n)
def roomB (r : List (List Int)) : Bool := decide (1 ≤ r.length ∧ r.length ≤ 4) && (roomN 2 r || (roomN 4 r || roomN 8 r))
theorem m_is_room {r : List (List Int)} (hr : r.length ≤ 100000) (hb : ∀ b ∈ r, b.length ≤ 100000) (μ : Mu) : F_is_room [rT r] μ = .ok (.bool (roomB r)) μ := by
  refine fn_ret (show D_is_room [some (.v (rT r)), none, none] μ = _ from ?_)
  have e : ∀ n, n = 2 ∨ n = 4 ∨ n = 8 → ∀ sd, dLc (iAny (dVar 0)) (gN 2) dYes (dCall F_bids_for (aCons (dVar 2) (aCons (dVar 1) aNil))) [2] [some (.v (rT r)), some (.v (nD n)), sd] μ = .ok (r.map fun x => .bool (bidB n x)) μ := fun n hn sd => by
    have z := lc_map (μ := μ) (tgt := gN 2) (fe := dCall F_bids_for (aCons (dVar 2) (aCons (dVar 1) aNil))) (sdw := [some (.v (rT r)), some (.v (nD n)), none]) iT (fun x => PyData.bool (bidB n x)) (xs := r) fun x hx => ⟨_, rfl, by
      simp only [e_call, e_aCons, e_aNil, e_var, List.set_cons_succ, List.set_cons_zero, List.getElem?_cons_succ, List.getElem?_cons_zero, Res.bind_ok, m_bids_for hn x (hb x hx)]⟩
    simp only [e_lc, e_iAny, e_var, List.getElem?_cons_zero, Res.bind_ok, i_t, lift_some]
    rw [if_pos (by simpa using hr)]
    show nx (lcLoop _ _ _ [some (.v (rT r)), some (.v (nD n)), none] _ μ) = _
    rw [z]
    rfl
  have lp := for_encC (μ := μ) (tgt := gN 1) (fb := sIf (dTest (dCB pyAll (aCons (dShare (dLc (iAny (dVar 0)) (gN 2) dYes (dCall F_bids_for (aCons (dVar 2) (aCons (dVar 1) aNil))) [2])) aNil))) (sRet (dC (.bool true))) sNext) nD (fun sd => ∃ x y, sd = [some (.v (rT r)), x, y]) (fun n => roomN n r) (.bool true) (xs := [2, 4, 8]) (fun n hn sd ⟨x, y, es⟩ => ⟨_, rfl, by
    subst es
    have hn : n = 2 ∨ n = 4 ∨ n = 8 := by simpa using hn
    simp only [List.set_cons_succ, List.set_cons_zero, e_sIf, e_test, e_cb, e_aCons, e_aNil, e_share, e n hn, Res.bind_ok, all_map', lift_some, a_b]
    cases c : r.all (bidB n) with
    | true =>
      rw [if_pos (show roomN n r = true from c)]
      rfl
    | false =>
      rw [if_neg (show ¬ roomN n r = true from by unfold roomN; rw [c]; exact Bool.false_ne_true)]
      exact ⟨_, rfl, _, _, rfl⟩⟩) (sd := [some (.v (rT r)), none, none]) ⟨_, _, rfl⟩
  by_cases c : 1 ≤ r.length ∧ r.length ≤ 4
  · have e0 : D_is_room [some (.v (rT r)), none, none] μ = (forLoop (gN 1) (sIf (dTest (dCB pyAll (aCons (dShare (dLc (iAny (dVar 0)) (gN 2) dYes (dCall F_bids_for (aCons (dVar 2) (aCons (dVar 1) aNil))) [2])) aNil))) (sRet (dC (.bool true))) sNext) ([2, 4, 8].map nD) [some (.v (rT r)), none, none] μ).bind (thenF (sRet (dC (.bool false)))) := by
      unfold D_is_room
      generalize (sIf (dTest (dCB pyAll (aCons (dShare (dLc (iAny (dVar 0)) (gN 2) dYes (dCall F_bids_for (aCons (dVar 2) (aCons (dVar 1) aNil))) [2])) aNil))) (sRet (dC (.bool true))) sNext) = bb
      have c1' : (1 : Int) ≤ (r.length : Int) := by omega
      have c2' : (r.length : Int) ≤ 4 := by omega
      simp only [e_seq, e_sIf, e_or, e_not, e_test, e_isi, e_var, List.getElem?_cons_zero, Res.bind_ok, isi_tt, lift_some, a_b, Bool.not_true, if_neg Bool.false_ne_true, e_chain, e_c, e_cb, e_aCons, e_aNil, l_t, List.length_map, p_le, decide_eq_true c1', decide_eq_true c2', if_true, e_next, e_then_next, e_sFor, e_iAny, i_t]
      rfl
    rw [e0]
    unfold roomB
    rw [decide_eq_true c]
    have ea : [2, 4, 8].any (fun n => roomN n r) = (roomN 2 r || (roomN 4 r || roomN 8 r)) := by simp
    rw [ea] at lp
    cases q : (roomN 2 r || (roomN 4 r || roomN 8 r)) with
    | true =>
      rw [q, if_pos rfl] at lp
      rw [lp]
      rfl
    | false =>
      rw [q, if_neg Bool.false_ne_true] at lp
      obtain ⟨sd', h1, _⟩ := lp
      rw [h1]
      rfl
  · have e0 : D_is_room [some (.v (rT r)), none, none] μ = .ok (.ret (.bool false)) μ := by
      unfold D_is_room
      generalize (sIf (dTest (dCB pyAll (aCons (dShare (dLc (iAny (dVar 0)) (gN 2) dYes (dCall F_bids_for (aCons (dVar 2) (aCons (dVar 1) aNil))) [2])) aNil))) (sRet (dC (.bool true))) sNext) = bb
      by_cases c1 : 1 ≤ r.length
      · have c1' : (1 : Int) ≤ (r.length : Int) := by omega
        have c2' : ¬ (r.length : Int) ≤ 4 := by omega
        simp only [e_seq, e_sIf, e_or, e_not, e_test, e_isi, e_var, List.getElem?_cons_zero, Res.bind_ok, isi_tt, lift_some, a_b, Bool.not_true, if_neg Bool.false_ne_true, e_chain, e_c, e_cb, e_aCons, e_aNil, l_t, List.length_map, p_le, decide_eq_true c1', decide_eq_false c2', if_true, Bool.not_false, e_ret, e_then_ret]
      · have c1' : ¬ (1 : Int) ≤ (r.length : Int) := by omega
        simp only [e_seq, e_sIf, e_or, e_not, e_test, e_isi, e_var, List.getElem?_cons_zero, Res.bind_ok, isi_tt, lift_some, a_b, Bool.not_true, if_neg Bool.false_ne_true, e_chain, e_c, e_cb, e_aCons, e_aNil, l_t, List.length_map, p_le, decide_eq_false c1', if_true, Bool.not_false, e_ret, e_then_ret]
    rw [e0]
    unfold roomB
    rw [decide_eq_false c]
    rfl
structure Room (r : List (List Int)) (n : Nat) : Prop where
  one : 1 ≤ r.length
  most : r.length ≤ 4
  size : n = 2 ∨ n = 4 ∨ n = 8
  bids : ∀ b ∈ r, bidB n b = true
theorem Room.len {r : List (List Int)} {n : Nat} (h : Room r n) {b : List Int} (hb : b ∈ r) : b.length = n := by
  have z := h.bids b hb
  unfold bidB at z
  exact of_decide_eq_true (Bool.and_eq_true_iff.mp z).1
theorem Room.small {r : List (List Int)} {n : Nat} (h : Room r n) {b : List Int} (hb : b ∈ r) : b.length ≤ 100000 := by
  have := h.len hb
  have := h.size
  omega
theorem Room.ok {r : List (List Int)} {n : Nat} (h : Room r n) : roomB r = true := by
  unfold roomB
  rw [decide_eq_true ⟨h.one, h.most⟩]
  have z : roomN n r = true := List.all_eq_true.mpr h.bids
  rcases h.size with rfl | rfl | rfl <;> simp [z]
@[simp] theorem m_check_room {r : List (List Int)} {n : Nat} (h : Room r n) (μ : Mu) : F_check_room [rT r] μ = .ok .none μ := by
  refine fn_next (sd := [some (.v (rT r))]) (show D_check_room [some (.v (rT r))] μ = _ from ?_)
  simp only [D_check_room, e_sIf, e_not, e_test, e_call, e_aCons, e_aNil, e_var, List.getElem?_cons_zero, Res.bind_ok, m_is_room (Nat.le_trans h.most (by decide)) (fun b hb => h.small hb), h.ok, lift_some, a_b, Bool.not_true, if_neg Bool.false_ne_true, e_next]
end OL

set_option maxHeartbeats 4000000
/-! OLSort: sorted(..) of tuples of numbers. -/
namespace OL
open PySem DL
/-- the order of tuples of numbers -/
def ltI : List Int → List Int → Bool
  | [], [] => false
  | [], _ :: _ => true
  | _ :: _, [] => false
  | x :: a, y :: b => decide (x < y) || (decide (x = y) && ltI a b)
def leI (a b : List Int) : Bool := !ltI b a
open PyProof.Rows PySem.W in
theorem toks_lt : ∀ a b : List Int, lexLt itemOrd (keyToksAll (a.map .int)) (keyToksAll (b.map .int)) = ltI a b
  | [], [] => by
    show (decide ((0 : Int) < 0) || (!decide ((0 : Int) < 0) && false)) = false
    rfl
  | [], y :: b => by
    show (decide ((0 : Int) < 1) || _) = true
    rfl
  | x :: a, [] => by
    show (decide ((1 : Int) < 0) || (!decide ((0 : Int) < 1) && _)) = false
    rfl
  | x :: a, y :: b => by
    have ih := toks_lt a b
    show (decide ((1 : Int) < 1) || (!decide ((1 : Int) < 1) && (decide (x < y) || (!decide (y < x) && lexLt itemOrd (keyToksAll (a.map .int)) (keyToksAll (b.map .int)))))) = (decide (x < y) || (decide (x = y) && ltI a b))
    rw [ih]
    by_cases h1 : x < y
    · simp [h1]
    · by_cases h2 : x = y
      · subst h2
        simp
      · have h3 : y < x := by omega
        simp [h1, h2, h3]
theorem dataLe_rows (a b : List Int) : PySem.W.dataLe false id (iT a) (iT b) = leI a b := by
  show (!PyProof.Rows.lexLt PyProof.Rows.itemOrd (PySem.W.keyToksAll (b.map .int)) (PySem.W.keyToksAll (a.map .int))) = _
  rw [toks_lt]
  rfl
theorem leI_refl_of {a b : List Int} : leI a b = true → leI b a = true → a = b := by
  unfold leI
  induction a generalizing b with
  | nil => cases b <;> simp [ltI]
  | cons x a ih =>
    cases b with
    | nil => simp [ltI]
    | cons y b =>
      simp only [ltI, Bool.not_eq_true', Bool.or_eq_false_iff, decide_eq_false_iff_not, Bool.and_eq_false_iff]
      rintro ⟨h1, h2⟩ ⟨h3, h4⟩
      have e : x = y := by omega
      subst e
      have q1 : ltI b a = false := by simpa using h2
      have q2 : ltI a b = false := by simpa using h4
      rw [ih (by simpa using q1) (by simpa using q2)]
theorem leI_total (a b : List Int) : (leI a b || leI b a) = true := by
  unfold leI
  induction a generalizing b with
  | nil => cases b <;> simp [ltI]
  | cons x a ih =>
    cases b with
    | nil => simp [ltI]
    | cons y b =>
      simp only [ltI]
      by_cases h1 : x < y
      · have : ¬ y < x := by omega
        have : ¬ y = x := by omega
        simp [*]
      · by_cases h2 : x = y
        · subst h2
          simpa using ih b
        · have : y < x := by omega
          simp [*]
theorem leI_trans (a b c : List Int) : leI a b = true → leI b c = true → leI a c = true := by
  unfold leI
  induction a generalizing b c with
  | nil => cases c <;> simp [ltI]
  | cons x a ih =>
    cases b with
    | nil => simp [ltI]
    | cons y b =>
      cases c with
      | nil => simp [ltI]
      | cons z c =>
        simp only [ltI, Bool.not_eq_true', Bool.or_eq_false_iff, decide_eq_false_iff_not, Bool.and_eq_false_iff]
        rintro ⟨h1, h2⟩ ⟨h3, h4⟩
        refine ⟨by omega, ?_⟩
        by_cases e : z = x
        · refine .inr ?_
          have e1 : y = x := by omega
          have e2 : z = y := by omega
          have q1 : ltI b a = false := by simpa [e1] using h2
          have q2 : ltI c b = false := by simpa [e2] using h4
          simpa using ih b c (by simpa using q1) (by simpa using q2)
        · exact .inl e
/-- an ascending list with the same members is the sorted one -/
theorem sorted_is {A L : List (List Int)} (hp : A.Perm L) (hs : L.Pairwise fun a b => leI a b = true) : A.mergeSort leI = L := by
  refine List.Perm.eq_of_pairwise (le := fun a b => leI a b = true) (fun a b _ _ h1 h2 => leI_refl_of h1 h2) (List.pairwise_mergeSort leI_trans leI_total A) hs ((List.mergeSort_perm A leI).trans hp)
theorem rows_ok {A : List (List Int)} (h : ∀ a ∈ A, a ≠ []) : sortOk (A.map iT) = true := by
  unfold sortOk
  rw [Bool.or_eq_true]
  refine .inr (List.all_eq_true.mpr fun d hd => ?_)
  obtain ⟨a, ha, rfl⟩ := List.mem_map.mp hd
  cases a with
  | nil => exact absurd rfl (h _ ha)
  | cons x r =>
    show (isInt (.int x) && (r.map PyData.int).all isInt) = true
    rw [Bool.and_eq_true]
    refine ⟨rfl, List.all_eq_true.mpr fun d hd => ?_⟩
    obtain ⟨i, _, rfl⟩ := List.mem_map.mp hd
    rfl
theorem m_sorted {A : List (List Int)} (h : ∀ a ∈ A, a ≠ []) (hl : A.length ≤ 100000) (μ : Mu) : pySorted [.list (A.map iT)] μ = some (.list ((A.mergeSort leI).map iT)) := by
  unfold pySorted
  rw [List.map_mergeSort (s := PySem.W.dataLe false id) fun a _ b _ => (dataLe_rows a b).symm]
  exact if_pos ⟨rows_ok h, by simpa using hl⟩
end OL

set_option maxHeartbeats 4000000
/-! OLMir2: allotments, totals, the best one. -/
namespace OL
open PySem DL
/-! ### slices, sizes -/
theorem sIx_nat {n k : Nat} (h : k ≤ n) (d : Nat) : HT.sIx n d (some (k : Int)) = k := by
  rw [HT.sIx_nat]
  omega
theorem cut_to {xs : List D} {k : Nat} (h : k ≤ xs.length) : cutD xs none (some (k : Int)) = xs.take k := by
  unfold cutD
  rw [sIx_nat h, HT.sIx_none]
  simp
theorem cut_from {xs : List D} {k : Nat} (h : k ≤ xs.length) : cutD xs (some (k : Int)) none = xs.drop k := by
  unfold cutD
  rw [sIx_nat h, HT.sIx_none, List.take_of_length_le]
  simp
theorem set_split {α : Type} : ∀ {l : List α} {k : Nat} (x : α), k < l.length → l.take k ++ [x] ++ l.drop (k + 1) = l.set k x
  | a :: l, 0, x, _ => by simp
  | a :: l, k + 1, x, h => by
    have ih := set_split (l := l) (k := k) x (by simpa using h)
    simp at ih ⊢
    exact ih
theorem pAddT {xs ys : List D} (h : xs.length + ys.length ≤ 100000) : pyAdd (.tuple xs) (.tuple ys) = some (.tuple (xs ++ ys)) := by
  unfold pyAdd
  exact if_pos h
theorem pAddL {xs ys : List D} (h : xs.length + ys.length ≤ 100000) : pyAdd (.list xs) (.list ys) = some (.list (xs ++ ys)) := by
  unfold pyAdd
  exact if_pos h
theorem sizeLt' {n : Nat} (h : n < 100000) : n < sizeLine := DL.sizeLt h
/-- t[:g] + (v,) + t[g + 1:] -/
theorem splice {xs : List D} {g : Nat} {v : D} (h : g < xs.length) (hl : xs.length ≤ 1000) : (pyAdd (.tuple (cutD xs none (some (g : Int)))) (.tuple [v])).bind (fun u => pyAdd u (.tuple (cutD xs (some ((g : Int) + 1)) none))) = some (.tuple (xs.set g v)) := by
  rw [cut_to (Nat.le_of_lt h), show (g : Int) + 1 = ((g + 1 : Nat) : Int) by omega, cut_from h, pAddT (by rw [List.length_take]; simp only [List.length_cons, List.length_nil]; omega)]
  rw [Option.bind_some, pAddT (by simp only [List.length_append, List.length_take, List.length_cons, List.length_nil, List.length_drop]; omega)]
  exact congrArg (fun z => some (PyData.tuple z)) (set_split v h)
/-! ### allotments -/
def addAt (a : List Int) (g : Nat) (p : Int) : List Int := a.set g (a.getD g 0 + p)
abbrev B_app : DS := sApp 4 (dBin pyAdd (dBin pyAdd (dSl (dVar 5) oNone (oSome (dVar 6))) (dTup (aCons (dBin pyAdd (dBin pyIx (dVar 5) (dVar 6)) (dVar 3)) aNil))) (dSl (dVar 5) (oSome (dBin pyAdd (dVar 6) (dC (.int 1)))) oNone))
abbrev slA (room grp sm : D) (p : Int) (L : List D) (x y : Option Sl) : Slots := [some (.v room), some (.v grp), some (.v sm), some (.v (.int p)), some (.own L), x, y]
theorem app_one {room grp sm : D} {p : Int} {L : List D} {a : List Int} {g : Nat} (μ : Mu) (hg : g < a.length) (ha : a.length ≤ 1000) (hL : L.length < 100000) :
    B_app (slA room grp sm p L (some (.v (iT a))) (some (.v (nD g)))) μ = .ok (.next (slA room grp sm p (L ++ [iT (addAt a g p)]) (some (.v (iT a))) (some (.v (nD g))))) μ := by
  have e1 : L2.atI (a.map PyData.int) (g : Int) = some (.int (a.getD g 0)) := by rw [at_map, getD_of hg]; rfl
  have e2 := splice (xs := a.map .int) (g := g) (v := .int (a.getD g 0 + p)) (by simpa using hg) (by simpa using ha)
  have e3 : (a.map PyData.int).set g (.int (a.getD g 0 + p)) = (addAt a g p).map .int := by unfold addAt; rw [List.map_set]
  rw [e3] at e2
  have e4 : pyAdd (.tuple (cutD (a.map .int) none (some (g : Int)))) (.tuple [.int (a.getD g 0 + p)]) = some (.tuple (cutD (a.map .int) none (some (g : Int)) ++ [.int (a.getD g 0 + p)])) := pAddT (by
    rw [cut_to (by simp; omega), List.length_take]
    simp only [List.length_cons, List.length_nil, List.length_map]
    omega)
  rw [e4] at e2
  simp only [e_app, slA, List.getElem?_cons_succ, List.getElem?_cons_zero, e_bin, e_sl, e_var, e_oNone, e_oSome, Res.bind_ok, a_i, lift_some, e_tup, e_aCons, e_aNil, x_t, e1, p_add, e_c]
  rw [if_pos (by simp)]
  simp only [lift_some, Res.bind_ok, pySl, e4]
  have e2 : pyAdd (.tuple (cutD (a.map .int) none (some (g : Int)) ++ [.int (a.getD g 0 + p)])) (.tuple (cutD (a.map .int) (some ((g : Int) + 1)) none)) = some (iT (addAt a g p)) := e2
  rw [e2]
  simp only [lift_some, Res.bind_ok]
  rw [if_pos (sizeLt' hL)]
  rfl
theorem app_inner {room grp sm : D} {p : Int} {a : List Int} (μ : Mu) (ha : a.length ≤ 1000) : ∀ (G : List Nat) (L : List D) (y : Option Sl), (∀ g ∈ G, g < a.length) → L.length + G.length ≤ 100000 →
    ∃ y', forLoop (gN 6) B_app (G.map nD) (slA room grp sm p L (some (.v (iT a))) y) μ = .ok (.next (slA room grp sm p (L ++ G.map fun g => iT (addAt a g p)) (some (.v (iT a))) y')) μ
  | [], L, y, _, _ => ⟨y, by simp [forLoop]⟩
  | g :: G, L, y, hg, hL => by
    have h1 := app_one (room := room) (grp := grp) (sm := sm) (p := p) (L := L) μ (hg g List.mem_cons_self) ha (by simp at hL; omega)
    obtain ⟨y', ih⟩ := app_inner μ ha G (L ++ [iT (addAt a g p)]) (some (.v (nD g))) (fun x hx => hg x (List.mem_cons_of_mem _ hx)) (by simp at hL ⊢; omega)
    refine ⟨y', ?_⟩
    rw [List.map_cons]
    unfold forLoop
    show ((B_app (slA room grp sm p L (some (.v (iT a))) (some (.v (nD g)))) μ).bind (thenF _)) = _
    rw [h1]
    simp only [Res.bind_ok, e_then_next]
    rw [ih, List.map_cons, List.append_assoc]
    rfl
abbrev B_app2 : DS := sFor (iAny (dVar 1)) (gN 6) B_app
theorem app_outer {room sm : D} {p : Int} {n : Nat} (μ : Mu) (hn : n ≤ 1000) {G : List Nat} (hG : ∀ g ∈ G, g < n) : ∀ (A : List (List Int)) (L : List D) (x y : Option Sl), (∀ a ∈ A, a.length = n) → L.length + A.length * G.length ≤ 100000 →
    ∃ x' y', forLoop (gN 5) B_app2 (A.map iT) (slA room (.list (G.map nD)) sm p L x y) μ = .ok (.next (slA room (.list (G.map nD)) sm p (L ++ (A.flatMap fun a => G.map fun g => addAt a g p).map iT) x' y')) μ
  | [], L, x, y, _, _ => ⟨x, y, by simp [forLoop]⟩
  | a :: A, L, x, y, hA, hL => by
    have ha : a.length = n := hA a List.mem_cons_self
    have hl2 : L.length + G.length + A.length * G.length ≤ 100000 := by
      rw [List.length_cons, Nat.succ_mul] at hL
      omega
    obtain ⟨y1, h1⟩ := app_inner (room := room) (grp := .list (G.map nD)) (sm := sm) (p := p) (a := a) μ (by omega) G L y (fun g hg => by rw [ha]; exact hG g hg) (by omega)
    obtain ⟨x', y', ih⟩ := app_outer (room := room) (sm := sm) (p := p) μ hn hG A (L ++ G.map fun g => iT (addAt a g p)) (some (.v (iT a))) y1 (fun b hb => hA b (List.mem_cons_of_mem _ hb)) (by
      rw [List.length_append, List.length_map]
      exact hl2)
    refine ⟨x', y', ?_⟩
    rw [List.map_cons]
    unfold forLoop
    show ((B_app2 (slA room (.list (G.map nD)) sm p L (some (.v (iT a))) y) μ).bind (thenF _)) = _
    have h2 : B_app2 (slA room (.list (G.map nD)) sm p L (some (.v (iT a))) y) μ = forLoop (gN 6) B_app (G.map nD) (slA room (.list (G.map nD)) sm p L (some (.v (iT a))) y) μ := by
      simp only [B_app2, e_sFor, e_iAny, slA, e_var, List.getElem?_cons_succ, List.getElem?_cons_zero, Res.bind_ok, i_l, lift_some]
    rw [h2, h1]
    simp only [Res.bind_ok, e_then_next]
    rw [ih, List.flatMap_cons, List.map_append, List.map_map, List.append_assoc]
    rfl
def rawA (n : Nat) (G : List Nat) : Nat → List (List Int)
  | 0 => [List.replicate n 0]
  | k + 1 => rawA n G k ++ (rawA n G k).flatMap fun a => G.map fun g => addAt a g ((2 ^ k : Nat) : Int)
theorem rawA_mem {n : Nat} {G : List Nat} : ∀ (k : Nat), ∀ a ∈ rawA n G k, a.length = n
  | 0, a, h => by
    have h : a = List.replicate n 0 := by simpa [rawA] using h
    rw [h, List.length_replicate]
  | k + 1, a, h => by
    unfold rawA at h
    rcases List.mem_append.mp h with h | h
    · exact rawA_mem k a h
    · obtain ⟨b, hb, h⟩ := List.mem_flatMap.mp h
      obtain ⟨g, _, rfl⟩ := List.mem_map.mp h
      unfold addAt
      rw [List.length_set]
      exact rawA_mem k b hb
theorem flat_len {α β : Type} (m : Nat) (f : α → List β) : ∀ (l : List α), (∀ a ∈ l, (f a).length = m) → (l.flatMap f).length = l.length * m
  | [], _ => by simp
  | a :: l, h => by
    rw [List.flatMap_cons, List.length_append, h a List.mem_cons_self, flat_len m f l fun b hb => h b (List.mem_cons_of_mem _ hb), List.length_cons, Nat.succ_mul]
    omega
theorem rawA_len {n : Nat} {G : List Nat} : ∀ (k : Nat), (rawA n G k).length = (G.length + 1) ^ k
  | 0 => by simp [rawA]
  | k + 1 => by
    unfold rawA
    rw [List.length_append, flat_len G.length _ _ fun a _ => by rw [List.length_map], rawA_len k, Nat.pow_succ, Nat.mul_succ]
    omega
abbrev B_wh : DS := sSeq (sAsg 4 (xO (lList (dVar 2)))) (sSeq (sFor (iAny (dVar 2)) (gN 5) B_app2) (sFreeze 4 (sSeq (sAsg 2 (xV (dVar 4))) (sAsg 3 (xV (dBin pyMul (dC (.int 2)) (dVar 3)))))))
abbrev slB (room grp : D) (A : List (List Int)) (p : Int) (x y z : Option Sl) : Slots := [some (.v room), some (.v grp), some (.v (rL A)), some (.v (.int p)), x, y, z]
theorem mulI {i j : Int} (h : -(2 ^ 64) < i ∧ i < 2 ^ 64) : pyMul (.int i) (.int j) = some (.int (i * j)) := by
  unfold pyMul
  exact if_pos (.inl h)
theorem wh_one {room : D} {n k : Nat} {G : List Nat} (μ : Mu) (hn : n ≤ 1000) (hG : ∀ g ∈ G, g < n) (hs : (G.length + 1) ^ k * (G.length + 1) ≤ 100000) (x y z : Option Sl) :
    ∃ x' y' z', B_wh (slB room (.list (G.map nD)) (rawA n G k) ((2 ^ k : Nat) : Int) x y z) μ = .ok (.next (slB room (.list (G.map nD)) (rawA n G (k + 1)) ((2 ^ (k + 1) : Nat) : Int) x' y' z')) μ := by
  have hl := rawA_len (n := n) (G := G) k
  obtain ⟨y', z', h1⟩ := app_outer (room := room) (sm := rL (rawA n G k)) (p := ((2 ^ k : Nat) : Int)) μ hn hG (rawA n G k) ((rawA n G k).map iT) y z (rawA_mem k) (by
    rw [List.length_map, hl]
    rw [Nat.mul_add, Nat.mul_one] at hs
    omega)
  have e : (rawA n G k).map iT ++ ((rawA n G k).flatMap fun a => G.map fun g => addAt a g ((2 ^ k : Nat) : Int)).map iT = (rawA n G (k + 1)).map iT := by
    rw [← List.map_append]
    rfl
  rw [e] at h1
  refine ⟨some (.v (rL (rawA n G (k + 1)))), y', z', ?_⟩
  simp only [B_wh, slB, e_seq, e_asg, e_xO, e_list, e_var, List.getElem?_cons_succ, List.getElem?_cons_zero, Res.bind_ok, s_l, lift_some, List.set_cons_succ, List.set_cons_zero, e_then_next, e_sFor, e_iAny, i_l]
  have h1 : forLoop (gN 5) B_app2 ((rawA n G k).map iT) [some (.v room), some (.v (.list (G.map nD))), some (.v (rL (rawA n G k))), some (.v (.int ((2 ^ k : Nat) : Int))), some (.own ((rawA n G k).map iT)), y, z] μ = _ := h1
  rw [h1]
  simp only [slA, Res.bind_ok, e_then_next, e_freeze, List.getElem?_cons_succ, List.getElem?_cons_zero, e_seq, e_asg, e_xV, e_var, List.set_cons_succ, List.set_cons_zero, e_bin, e_c, mulI (show -(2 ^ 64) < (2 : Int) ∧ (2 : Int) < 2 ^ 64 by decide), lift_some]
  have e2 : (2 : Int) * ((2 ^ k : Nat) : Int) = ((2 ^ (k + 1) : Nat) : Int) := by
    rw [Nat.pow_succ]
    omega
  rw [e2]
abbrev T_wh : DT := dTest (dBin pyLt (dVar 3) (dCB pyLen (aCons (dBin pyIx (dVar 0) (dC (.int 0))) aNil)))
theorem wh_run {b0 : List Int} {r : List (List Int)} {n : Nat} {G : List Nat} (μ : Mu) (hn : n ≤ 1000) (hG : ∀ g ∈ G, g < n) {K : Nat} (hb : b0.length = 2 ^ K) (hs : (G.length + 1) ^ K ≤ 100000) : ∀ (m k f : Nat), k + m = K → m < f → ∀ x y z,
    ∃ x' y' z', whLoop T_wh B_wh f (slB (rT (b0 :: r)) (.list (G.map nD)) (rawA n G k) ((2 ^ k : Nat) : Int) x y z) μ = .ok (.next (slB (rT (b0 :: r)) (.list (G.map nD)) (rawA n G K) ((2 ^ K : Nat) : Int) x' y' z')) μ
  | m, k, 0, _, h, _, _, _ => absurd h (by omega)
  | m, k, f + 1, hk, hf, x, y, z => by
    have ht : T_wh (slB (rT (b0 :: r)) (.list (G.map nD)) (rawA n G k) ((2 ^ k : Nat) : Int) x y z) μ = .ok (decide (((2 ^ k : Nat) : Int) < ((2 ^ K : Nat) : Int))) μ := by
      have e1 : L2.atI ((b0 :: r).map iT) 0 = some (iT b0) := by
        have := at_nat ((b0 :: r).map iT) 0
        rw [show ((0 : Nat) : Int) = 0 from rfl] at this
        rw [this]
        rfl
      simp only [T_wh, slB, e_test, e_bin, e_var, e_cb, e_aCons, e_aNil, e_c, List.getElem?_cons_succ, List.getElem?_cons_zero, Res.bind_ok, x_t, e1, lift_some, l_t, List.length_map, hb, p_lt, a_b]
    unfold whLoop
    rw [ht]
    cases m with
    | zero =>
      have e : k = K := by omega
      subst e
      simp only [Res.bind_ok, Int.lt_irrefl, decide_false, if_neg Bool.false_ne_true]
      exact ⟨_, _, _, rfl⟩
    | succ m =>
      have hlt : (2 ^ k : Nat) < 2 ^ K := Nat.pow_lt_pow_right (by decide) (by omega)
      have hs' : (G.length + 1) ^ k * (G.length + 1) ≤ 100000 := by
        rw [← Nat.pow_succ]
        exact Nat.le_trans (Nat.pow_le_pow_right (by omega) (by omega)) hs
      obtain ⟨x1, y1, z1, h1⟩ := wh_one (room := rT (b0 :: r)) μ hn hG hs' x y z
      obtain ⟨x', y', z', ih⟩ := wh_run (r := r) μ hn hG hb hs m (k + 1) f (by omega) (by omega) x1 y1 z1
      refine ⟨x', y', z', ?_⟩
      simp only [Res.bind_ok]
      rw [if_pos (decide_eq_true (by omega)), h1]
      simp only [Res.bind_ok, e_then_next]
      exact ih
/-- the ascending list of all allotments -/
def allA (n : Nat) (G : List Nat) (K : Nat) : List (List Int) := (rawA n G K).mergeSort leI
theorem m_allotments {b0 : List Int} {r : List (List Int)} {G : List Nat} {K : Nat} (μ : Mu) (hn : (b0 :: r).length ≤ 1000) (hG : ∀ g ∈ G, g < (b0 :: r).length) (hb : b0.length = 2 ^ K) (hK : K ≤ 90) (hs : (G.length + 1) ^ K ≤ 100000) :
    F_allotments [rT (b0 :: r), .list (G.map nD)] μ = .ok (rL (allA (b0 :: r).length G K)) μ := by
  obtain ⟨x, y, z, h⟩ := wh_run (r := r) μ hn hG hb hs K 0 100 (by omega) (by omega) none none none
  refine fn_ret (show D_allotments [some (.v (rT (b0 :: r))), some (.v (.list (G.map nD))), none, none, none, none, none] μ = _ from ?_)
  have e0 : D_allotments = sSeq (sAsg 2 (xV (dShare (dLst (aCons (dBin pyMul (dTup (aCons (dC (.int 0)) aNil)) (dCB pyLen (aCons (dVar 0) aNil))) aNil))))) (sSeq (sAsg 3 (xV (dC (.int 1)))) (sSeq (whLoop T_wh B_wh 100) (sRet (dCB pySorted (aCons (dVar 2) aNil))))) := rfl
  rw [e0]
  have e1 : pyMul (.tuple [.int 0]) (.int (((b0 :: r).length : Nat) : Int)) = some (iT (List.replicate (b0 :: r).length 0)) := by
    unfold pyMul
    show (if _ then some (PyData.tuple (List.replicate (((b0 :: r).length : Nat) : Int).toNat [PyData.int 0]).flatten) else none) = _
    rw [if_pos ⟨by simp, by omega, by omega, by simp⟩, Int.toNat_natCast]
    congr 2
    simp
  have h : whLoop T_wh B_wh 100 [some (.v (rT (b0 :: r))), some (.v (.list (G.map nD))), some (.v (rL [List.replicate (b0 :: r).length 0])), some (.v (.int 1)), none, none, none] μ = _ := h
  generalize whLoop T_wh B_wh 100 = wl at *
  simp only [e_seq, e_asg, e_xV, e_share, e_lst, e_aCons, e_aNil, e_bin, e_tup, e_c, Res.bind_ok, List.length_cons, List.length_nil, e_cb, e_var, List.getElem?_cons_zero, l_t, List.length_map]
  rw [if_pos (by decide)]
  simp only [lift_some, Res.bind_ok]
  have e1 : pyMul (.tuple [.int 0]) (.int ((r.length + 1 : Nat) : Int)) = some (iT (List.replicate (b0 :: r).length 0)) := e1
  rw [e1]
  simp only [lift_some, Res.bind_ok, List.length_cons, List.length_nil]
  rw [if_pos (by decide)]
  simp only [lift_some, Res.bind_ok, List.set_cons_succ, List.set_cons_zero, e_then_next, e_seq, e_asg, e_xV, e_c]
  have h : wl [some (.v (rT (b0 :: r))), some (.v (.list (G.map nD))), some (.v (.list [iT (List.replicate (r.length + 1) 0)])), some (.v (.int 1)), none, none, none] μ = _ := h
  rw [h]
  have hm := m_sorted (A := rawA (b0 :: r).length G K) (fun a ha e => by
    have := rawA_mem K a ha
    rw [e] at this
    simp at this) (by rw [rawA_len]; exact hs) μ
  simp only [slB, Res.bind_ok, e_then_next, e_ret, e_cb, e_aCons, e_aNil, e_var, List.getElem?_cons_succ, List.getElem?_cons_zero, rL, hm, lift_some]
  rfl
end OL

set_option maxHeartbeats 4000000
/-! OLMir3: totals, the best allotment, the outcome, what is kept. -/
namespace OL
open PySem DL
/-! ### the entries of an allotment -/
theorem rawA_ent {n : Nat} {G : List Nat} : ∀ (k : Nat), ∀ a ∈ rawA n G k, ∀ x ∈ a, 0 ≤ x ∧ x < ((2 ^ k : Nat) : Int)
  | 0, a, h, x, hx => by
    have h : a = List.replicate n 0 := by simpa [rawA] using h
    rw [h] at hx
    have := List.eq_of_mem_replicate hx
    subst this
    decide
  | k + 1, a, h, x, hx => by
    have e : (2 ^ (k + 1) : Nat) = 2 * 2 ^ k := by rw [Nat.pow_succ]; omega
    unfold rawA at h
    rcases List.mem_append.mp h with h | h
    · have := rawA_ent k a h x hx
      omega
    · obtain ⟨b, hb, h⟩ := List.mem_flatMap.mp h
      obtain ⟨g, _, rfl⟩ := List.mem_map.mp h
      unfold addAt at hx
      rcases List.mem_or_eq_of_mem_set hx with hx | rfl
      · have := rawA_ent k b hb x hx
        omega
      · by_cases hg : g < b.length
        · have q : b.getD g 0 ∈ b := by
            rw [List.getD_eq_getElem?_getD, List.getElem?_eq_getElem hg]
            exact List.getElem_mem hg
          have := rawA_ent k b hb _ q
          omega
        · have q : b.getD g 0 = 0 := by
            rw [List.getD_eq_getElem?_getD, List.getElem?_eq_none (by omega)]
            rfl
          have := Nat.two_pow_pos k
          omega
theorem allA_mem {n : Nat} {G : List Nat} {K : Nat} {a : List Int} (h : a ∈ allA n G K) : a ∈ rawA n G K := (List.mergeSort_perm _ _).mem_iff.mp h
/-! ### totals -/
def tot (r : List (List Int)) (a : List Int) : Int := ((r.zip a).map fun p => p.1.getD p.2.toNat 0).sum
theorem asInts_map' {α : Type} (f : α → Int) (l : List α) : asInts (l.map fun x => PyData.int (f x)) = some (l.map f) := by
  have z := asInts_of (l.map f)
  rw [List.map_map] at z
  exact z
theorem sum_map' {α : Type} (f : α → Int) (l : List α) (μ : Mu) : pySum [.list (l.map fun x => PyData.int (f x))] μ = some (.int (l.map f).sum) := by
  show (asInts (l.map fun x => PyData.int (f x))).map (fun ns => PyData.int ns.sum) = _
  rw [asInts_map']
  rfl
theorem at_int {b : List Int} {x : Int} (h0 : 0 ≤ x) (h1 : x < b.length) : L2.atI (b.map PyData.int) x = some (.int (b.getD x.toNat 0)) := by
  have e : x = (x.toNat : Int) := by omega
  have h : x.toNat < b.length := by omega
  conv => lhs; rw [e]
  rw [at_map, getD_of h]
  rfl
theorem zip2_map {α β : Type} (f : α → D) (g : β → D) (xs : List α) (ys : List β) : zip2D (xs.map f) (ys.map g) = (xs.zip ys).map fun p => .tuple [f p.1, g p.2] := by
  unfold zip2D
  induction xs generalizing ys with
  | nil => simp
  | cons x xs ih =>
    cases ys with
    | nil => simp
    | cons y ys => simp [ih]
theorem m_total_of {r : List (List Int)} {a : List Int} (h : ∀ p ∈ r.zip a, 0 ≤ p.2 ∧ p.2 < p.1.length) (hr : r.length ≤ 100000) (μ : Mu) : F_total_of [rT r, iT a] μ = .ok (.int (tot r a)) μ := by
  refine fn_ret (show D_total_of [some (.v (rT r)), some (.v (iT a)), none, none] μ = _ from ?_)
  have z := lc_map (μ := μ) (tgt := g2 2 3) (fe := dBin pyIx (dVar 2) (dVar 3)) (sdw := [some (.v (rT r)), some (.v (iT a)), none, none]) (fun p : List Int × Int => PyData.tuple [iT p.1, .int p.2]) (fun p => PyData.int (p.1.getD p.2.toNat 0)) (xs := r.zip a) fun p hp => ⟨_, rfl, by
    simp only [e_bin, e_var, List.set_cons_succ, List.set_cons_zero, List.getElem?_cons_succ, List.getElem?_cons_zero, Res.bind_ok, x_t, at_int (h p hp).1 (h p hp).2, lift_some]⟩
  unfold D_total_of
  simp only [e_ret, e_cb, e_aCons, e_aNil, e_share, e_lc, e_iZ2, e_var, List.getElem?_cons_succ, List.getElem?_cons_zero, Res.bind_ok, zip2Of, lift_some, zip2_map]
  rw [if_pos (by simp only [List.length_map, List.length_zip]; omega)]
  have z : lcLoop (g2 2 3) dYes (dBin pyIx (dVar 2) (dVar 3)) (wipeD [some (.v (rT r)), some (.v (iT a)), none, none] [2, 3]) ((r.zip a).map fun p => PyData.tuple [iT p.1, .int p.2]) μ = _ := z
  rw [z]
  simp only [nx_ok, Res.bind_ok, sum_map', lift_some]
  rfl
/-! ### the first of the greatest -/
def bst {α : Type} (f : α → Int) : Option (Int × α) → α → Option (Int × α)
  | none, a => some (f a, a)
  | some (m, b), a => if m < f a then some (f a, a) else some (m, b)
structure IsBest {α : Type} (f : α → Int) (A : List α) (m : Int) (a : α) : Prop where
  mem : a ∈ A
  val : f a = m
  top : ∀ b ∈ A, f b ≤ m
  fst : ∃ P S, A = P ++ a :: S ∧ ∀ b ∈ P, f b < m
theorem bst_snoc {α : Type} (f : α → Int) (A : List α) (x : α) (acc : Option (Int × α)) : (A ++ [x]).foldl (bst f) acc = bst f (A.foldl (bst f) acc) x := by
  rw [List.foldl_append]
  rfl
theorem bst_of {α : Type} (f : α → Int) : ∀ (A B : List α) (m : Int) (b : α), IsBest f B m b → ∃ m' a, A.foldl (bst f) (some (m, b)) = some (m', a) ∧ IsBest f (B ++ A) m' a
  | [], B, m, b, h => ⟨m, b, rfl, by simpa using h⟩
  | x :: A, B, m, b, h => by
    rw [List.foldl_cons]
    have e : B ++ x :: A = (B ++ [x]) ++ A := by simp
    rw [e]
    by_cases c : m < f x
    · have : bst f (some (m, b)) x = some (f x, x) := if_pos c
      rw [this]
      refine bst_of f A (B ++ [x]) (f x) x ⟨by simp, rfl, fun y hy => ?_, B, [], rfl, fun y hy => Int.lt_of_le_of_lt (h.top y hy) c⟩
      rcases List.mem_append.mp hy with hy | hy
      · exact Int.le_of_lt (Int.lt_of_le_of_lt (h.top y hy) c)
      · have : y = x := by simpa using hy
        subst this
        exact Int.le_refl _
    · have : bst f (some (m, b)) x = some (m, b) := if_neg c
      rw [this]
      obtain ⟨P, S, e2, h2⟩ := h.fst
      refine bst_of f A (B ++ [x]) m b ⟨List.mem_append_left _ h.mem, h.val, fun y hy => ?_, P, S ++ [x], by rw [e2]; simp, h2⟩
      rcases List.mem_append.mp hy with hy | hy
      · exact h.top y hy
      · have : y = x := by simpa using hy
        subst this
        omega
theorem bst_best {α : Type} (f : α → Int) {A : List α} (h : A ≠ []) : ∃ m a, A.foldl (bst f) none = some (m, a) ∧ IsBest f A m a := by
  cases A with
  | nil => exact absurd rfl h
  | cons x A =>
    obtain ⟨m, a, h1, h2⟩ := bst_of f A [x] (f x) x ⟨by simp, rfl, fun y hy => by
      have : y = x := by simpa using hy
      subst this
      exact Int.le_refl _, [], [], rfl, fun y hy => by simp at hy⟩
    exact ⟨m, a, h1, h2⟩
theorem IsBest.uniq {α : Type} {f : α → Int} {A : List α} {m m' : Int} {a a' : α} (h : IsBest f A m a) (h' : IsBest f A m' a') : m = m' ∧ a = a' := by
  have e : m = m' := by
    have h1 := h.top a' h'.mem
    have h2 := h'.top a h.mem
    rw [h'.val] at h1
    rw [h.val] at h2
    omega
  subst e
  refine ⟨rfl, ?_⟩
  obtain ⟨P, S, e1, h1⟩ := h.fst
  obtain ⟨P', S', e2, h2⟩ := h'.fst
  rw [e1] at e2
  rcases List.append_eq_append_iff.mp e2 with ⟨as, e3, e4⟩ | ⟨as, e3, e4⟩
  · cases as with
    | nil => simp at e4; exact e4.1
    | cons y as =>
      simp at e4
      have := h2 a (by rw [e3, e4.1]; simp)
      have := h.val
      omega
  · cases as with
    | nil => simp at e4; exact e4.1.symm
    | cons y as =>
      simp at e4
      have := h1 a' (by rw [e3, e4.1]; simp)
      have := h'.val
      omega
/-! ### best_for -/
def encB : Option (Int × List Int) → D
  | none => .none
  | some (m, a) => .tuple [.int m, iT a]
abbrev B_best : DS := sSeq (sAsg 4 (xV (dCall F_total_of (aCons (dVar 0) (aCons (dVar 3) aNil))))) (sIf (dOr (dTest (dBin (pyIs false) (dVar 2) (dC .none))) (dTest (dBin pyGt (dVar 4) (dBin pyIx (dVar 2) (dC (.int 0)))))) (sAsg 2 (xV (dTup (aCons (dVar 4) (aCons (dVar 3) aNil))))) sNext)
theorem best_loop {r : List (List Int)} {grp : D} (μ : Mu) (hr : r.length ≤ 100000) : ∀ (A : List (List Int)) (acc : Option (Int × List Int)) (x y : Option Sl), (∀ a ∈ A, ∀ p ∈ r.zip a, 0 ≤ p.2 ∧ p.2 < p.1.length) →
    ∃ x' y', forLoop (gN 3) B_best (A.map iT) [some (.v (rT r)), some (.v grp), some (.v (encB acc)), x, y] μ = .ok (.next [some (.v (rT r)), some (.v grp), some (.v (encB (A.foldl (bst (tot r)) acc))), x', y']) μ
  | [], acc, x, y, _ => ⟨x, y, rfl⟩
  | a :: A, acc, x, y, h => by
    have h1 : ∃ y1, B_best [some (.v (rT r)), some (.v grp), some (.v (encB acc)), some (.v (iT a)), y] μ = .ok (.next [some (.v (rT r)), some (.v grp), some (.v (encB (bst (tot r) acc a))), some (.v (iT a)), y1]) μ := by
      refine ⟨some (.v (.int (tot r a))), ?_⟩
      have ht := m_total_of (h a List.mem_cons_self) hr μ
      cases acc with
      | none =>
        simp only [B_best, e_seq, e_asg, e_xV, e_call, e_aCons, e_aNil, e_var, List.getElem?_cons_succ, List.getElem?_cons_zero, Res.bind_ok, ht, List.set_cons_succ, List.set_cons_zero, e_then_next, e_sIf, e_or, e_test, e_bin, e_c, encB, pyIs, isNone, lift_some, a_b]
        simp only [bne, Bool.not_false, if_true, Res.bind_ok, e_asg, e_xV, e_tup, e_aCons, e_aNil, e_var, List.getElem?_cons_succ, List.getElem?_cons_zero, List.length_cons, List.length_nil, bst, encB]
        rfl
      | some q =>
        obtain ⟨m, b⟩ := q
        have e0 : L2.atI [PyData.int m, iT b] 0 = some (.int m) := rfl
        simp only [B_best, e_seq, e_asg, e_xV, e_call, e_aCons, e_aNil, e_var, List.getElem?_cons_succ, List.getElem?_cons_zero, Res.bind_ok, ht, List.set_cons_succ, List.set_cons_zero, e_then_next, e_sIf, e_or, e_test, e_bin, e_c, encB, pyIs, isNone, lift_some, a_b]
        have e1 : (false != false) = false := rfl
        simp only [e1, if_neg Bool.false_ne_true, x_t, e0, lift_some, Res.bind_ok, p_gt, a_b, bst]
        by_cases c : m < tot r a
        · rw [decide_eq_true c, if_pos rfl, if_pos c]
          rfl
        · rw [decide_eq_false c, if_neg Bool.false_ne_true, if_neg c]
          rfl
    obtain ⟨y1, h1⟩ := h1
    obtain ⟨x', y', ih⟩ := best_loop (grp := grp) μ hr A (bst (tot r) acc a) (some (.v (iT a))) y1 fun b hb => h b (List.mem_cons_of_mem _ hb)
    refine ⟨x', y', ?_⟩
    rw [List.map_cons]
    unfold forLoop
    show ((B_best [some (.v (rT r)), some (.v grp), some (.v (encB acc)), some (.v (iT a)), y] μ).bind (thenF _)) = _
    rw [h1]
    simp only [Res.bind_ok, e_then_next]
    exact ih
end OL

set_option maxHeartbeats 4000000
/-! OLMir4: best_for, the outcome, what is kept, groups. -/
namespace OL
open PySem DL
structure RK (r : List (List Int)) (K : Nat) : Prop where
  room : Room r (2 ^ K)
  k1 : 1 ≤ K
  k3 : K ≤ 3
structure Grp (n : Nat) (G : List Nat) : Prop where
  lt : ∀ g ∈ G, g < n
  len : G.length ≤ 4
theorem pow_small {m K : Nat} (hm : m ≤ 4) (hK : K ≤ 3) : (m + 1) ^ K ≤ 100000 := by
  have h1 : (m + 1) ^ K ≤ 5 ^ K := Nat.pow_le_pow_left (by omega) K
  have h2 : 5 ^ K ≤ 5 ^ 3 := Nat.pow_le_pow_right (by decide) hK
  have h3 : 5 ^ 3 ≤ 100000 := by decide
  omega
def bestP (r : List (List Int)) (G : List Nat) (K : Nat) : Int × List Int := ((allA r.length G K).foldl (bst (tot r)) none).getD (0, [])
theorem allA_ne {n : Nat} {G : List Nat} {K : Nat} : allA n G K ≠ [] := fun e => by
  have h : (allA n G K).length = (G.length + 1) ^ K := by
    unfold allA
    rw [List.length_mergeSort, rawA_len]
  rw [e] at h
  have h2 : 0 < (G.length + 1) ^ K := Nat.pow_pos (by omega)
  rw [← h] at h2
  exact absurd h2 (by simp)
theorem bestP_is (r : List (List Int)) (G : List Nat) (K : Nat) : IsBest (tot r) (allA r.length G K) (bestP r G K).1 (bestP r G K).2 ∧ (allA r.length G K).foldl (bst (tot r)) none = some (bestP r G K) := by
  obtain ⟨m, a, h1, h2⟩ := bst_best (tot r) (allA_ne (n := r.length) (G := G) (K := K))
  unfold bestP
  rw [h1]
  exact ⟨h2, rfl⟩
theorem RK.zip {r : List (List Int)} {K : Nat} (h : RK r K) {G : List Nat} : ∀ a ∈ allA r.length G K, ∀ p ∈ r.zip a, 0 ≤ p.2 ∧ p.2 < p.1.length := fun a ha p hp => by
  obtain ⟨x, b⟩ := p
  have hz := List.of_mem_zip hp
  have := rawA_ent K a (allA_mem ha) b hz.2
  rw [h.room.len hz.1]
  exact this
@[simp] theorem m_best_for {r : List (List Int)} {K : Nat} (h : RK r K) {G : List Nat} (hG : Grp r.length G) (μ : Mu) : F_best_for [rT r, .list (G.map nD)] μ = .ok (.tuple [.int (bestP r G K).1, iT (bestP r G K).2]) μ := by
  have ha : F_allotments [rT r, .list (G.map nD)] μ = .ok (rL (allA r.length G K)) μ := by
    have one := h.room.one
    have most := h.room.most
    have hb : ∀ b ∈ r, b.length = 2 ^ K := fun b hb => h.room.len hb
    cases r with
    | nil => simp at one
    | cons b0 r => exact m_allotments μ (Nat.le_trans most (by decide)) hG.lt (hb b0 List.mem_cons_self) (Nat.le_trans h.k3 (by decide)) (pow_small hG.len h.k3)
  obtain ⟨x, y, hl⟩ := best_loop (r := r) (grp := .list (G.map nD)) μ (Nat.le_trans h.room.most (by decide)) (allA r.length G K) none none none h.zip
  rw [(bestP_is r G K).2] at hl
  refine fn_ret (show D_best_for [some (.v (rT r)), some (.v (.list (G.map nD))), none, none, none] μ = _ from ?_)
  have e0 : D_best_for = sSeq (sAsg 2 (xV (dC .none))) (sSeq (sFor (iAny (dCall F_allotments (aCons (dVar 0) (aCons (dVar 1) aNil)))) (gN 3) B_best) (sRet (dVar 2))) := rfl
  rw [e0]
  generalize B_best = bb at *
  have hl : forLoop (gN 3) bb ((allA r.length G K).map iT) [some (.v (rT r)), some (.v (.list (G.map nD))), some (.v .none), none, none] μ = _ := hl
  simp only [e_seq, e_asg, e_xV, e_c, Res.bind_ok, List.set_cons_succ, List.set_cons_zero, e_then_next, e_sFor, e_iAny, e_call, e_aCons, e_aNil, e_var, List.getElem?_cons_succ, List.getElem?_cons_zero, ha, i_l, lift_some, hl, e_ret]
  rfl
@[simp] theorem m_everyone (r : List (List Int)) (hr : r.length ≤ 100000) (μ : Mu) : F_everyone [rT r] μ = .ok (.list ((List.range r.length).map nD)) μ := by
  refine fn_ret (show D_everyone [some (.v (rT r))] μ = _ from ?_)
  simp only [D_everyone, e_ret, e_share, e_lRange, e_cb, e_aCons, e_aNil, e_var, List.getElem?_cons_zero, Res.bind_ok, l_t, List.length_map, lift_some, a_i, Option.bind_some, rgOk_nat hr, rg0n]
theorem grp_all {r : List (List Int)} {K : Nat} (h : RK r K) : Grp r.length (List.range r.length) := ⟨fun g hg => List.mem_range.mp hg, by rw [List.length_range]; exact h.room.most⟩
def others (n i : Nat) : List Nat := (List.range n).filter fun j => !decide (j = i)
theorem grp_others {r : List (List Int)} {K : Nat} (h : RK r K) (i : Nat) : Grp r.length (others r.length i) := ⟨fun g hg => List.mem_range.mp (List.mem_filter.mp hg).1, by
  have := List.length_filter_le (fun j => !decide (j = i)) (List.range r.length)
  rw [List.length_range] at this
  exact Nat.le_trans this h.room.most⟩
theorem bestP_len {r : List (List Int)} {G : List Nat} {K : Nat} : (bestP r G K).2.length = r.length := rawA_mem K _ (allA_mem (bestP_is r G K).1.mem)
theorem bestP_ent {r : List (List Int)} {G : List Nat} {K : Nat} : ∀ x ∈ (bestP r G K).2, 0 ≤ x ∧ x < ((2 ^ K : Nat) : Int) := rawA_ent K _ (allA_mem (bestP_is r G K).1.mem)
/-! ### outcome -/
/-- what bidder i is worth, of what it gets in a -/
def val (r : List (List Int)) (a : List Int) (i : Nat) : Int := (r.getD i []).getD (a.getD i 0).toNat 0
abbrev everyN (r : List (List Int)) : List Nat := List.range r.length
abbrev win (r : List (List Int)) (K : Nat) : List Int := (bestP r (everyN r) K).2
abbrev top (r : List (List Int)) (K : Nat) : Int := (bestP r (everyN r) K).1
def pay (r : List (List Int)) (K i : Nat) : Int := (bestP r (others r.length i) K).1 - (top r K - val r (win r K) i)
def pays (r : List (List Int)) (K : Nat) : List Int := (everyN r).map (pay r K)
theorem at_row {r : List (List Int)} {i : Nat} (h : i < r.length) : L2.atI (r.map iT) (i : Int) = some (iT (r.getD i [])) := by
  rw [at_nat, List.getElem?_map, List.getElem?_eq_getElem h, List.getD_eq_getElem?_getD, List.getElem?_eq_getElem h]
  rfl
theorem val_at {r : List (List Int)} {K : Nat} (h : RK r K) {a : List Int} (ha : a.length = r.length) (hx : ∀ x ∈ a, 0 ≤ x ∧ x < ((2 ^ K : Nat) : Int)) {i : Nat} (hi : i < r.length) : L2.atI ((r.getD i []).map PyData.int) (a.getD i 0) = some (.int (val r a i)) := by
  have hm : a.getD i 0 ∈ a := by
    rw [List.getD_eq_getElem?_getD, List.getElem?_eq_getElem (by omega)]
    exact List.getElem_mem (by omega)
  have hb : r.getD i [] ∈ r := by
    rw [List.getD_eq_getElem?_getD, List.getElem?_eq_getElem hi]
    exact List.getElem_mem hi
  have := hx _ hm
  exact at_int this.1 (by rw [h.room.len hb]; exact this.2)
theorem enum_ints (a : List Int) : enumD (a.map .int) = (List.range a.length).map fun i => .tuple [nD i, .int (a.getD i 0)] := by
  apply List.ext_getElem?
  intro i
  unfold enumD
  rw [List.getElem?_map, List.getElem?_zipIdx, List.getElem?_map, List.getElem?_map]
  by_cases hi : i < a.length
  · have q := getD_of hi
    rw [List.getElem?_eq_getElem hi, List.getElem?_range hi]
    rw [List.getElem?_eq_getElem hi] at q
    simp only [Option.map_some, ← Option.some.inj q, Nat.zero_add, nD]
  · rw [List.getElem?_eq_none (by omega), List.getElem?_eq_none (by rw [List.length_range]; omega)]
    rfl
abbrev B_out : DS := sSeq (sAsg 6 (xO (dLc (iAny (dCall F_everyone (aCons (dVar 0) aNil))) (gN 7) (dTest (dBin pyNe (dVar 7) (dVar 4))) (dVar 7) [7])))
    (sFreeze 6 (sApp 3 (dBin pySub (dBin pyIx (dCall F_best_for (aCons (dVar 0) (aCons (dVar 6) aNil))) (dC (.int 0))) (dBin pySub (dVar 1) (dBin pyIx (dBin pyIx (dVar 0) (dVar 4)) (dVar 5))))))
theorem others_lc {r : List (List Int)} {K : Nat} (h : RK r K) (i : Nat) (μ : Mu) (s1 s2 s3 s5 s6 s7 : Option Sl) :
    dLc (iAny (dCall F_everyone (aCons (dVar 0) aNil))) (gN 7) (dTest (dBin pyNe (dVar 7) (dVar 4))) (dVar 7) [7] [some (.v (rT r)), s1, s2, s3, some (.v (nD i)), s5, s6, s7] μ = .ok ((others r.length i).map nD) μ := by
  have hr := h.room.most
  have z := lc_enc (μ := μ) (tgt := gN 7) (ft := dTest (dBin pyNe (dVar 7) (dVar 4))) (fe := dVar 7) (sdw := [some (.v (rT r)), s1, s2, s3, some (.v (nD i)), s5, s6, none]) nD (fun j => !decide (j = i)) nD (xs := List.range r.length) fun j hj => ⟨_, rfl, by
    simp only [e_test, e_bin, e_var, List.set_cons_succ, List.set_cons_zero, List.getElem?_cons_succ, List.getElem?_cons_zero, Res.bind_ok, p_ne, lift_some, a_b]
    congr 1
    by_cases c : j = i
    · simp [c]
    · have : ¬ (j : Int) = (i : Int) := by omega
      simp [c, this], fun _ => by simp only [e_var, List.set_cons_succ, List.set_cons_zero, List.getElem?_cons_succ, List.getElem?_cons_zero]⟩
  simp only [e_lc, e_iAny, e_call, e_aCons, e_aNil, e_var, List.getElem?_cons_zero, Res.bind_ok, m_everyone r (by omega), i_l, lift_some]
  rw [if_pos (by rw [List.length_map, List.length_range]; omega)]
  show nx (lcLoop _ _ _ [some (.v (rT r)), s1, s2, s3, some (.v (nD i)), s5, s6, none] _ μ) = _
  rw [z]
  rfl
theorem out_one {r : List (List Int)} {K : Nat} (h : RK r K) (μ : Mu) {i : Nat} (hi : i < r.length) (L : List D) (hL : L.length < 1000) (x y : Option Sl) (s2 : Option Sl) :
    B_out [some (.v (rT r)), some (.v (.int (top r K))), s2, some (.own L), some (.v (nD i)), some (.v (.int ((win r K).getD i 0))), x, y] μ = .ok (.next [some (.v (rT r)), some (.v (.int (top r K))), s2, some (.own (L ++ [.int (pay r K i)])), some (.v (nD i)), some (.v (.int ((win r K).getD i 0))), some (.v (.list ((others r.length i).map nD))), y]) μ := by
  have e1 : L2.atI [PyData.int (bestP r (others r.length i) K).1, iT (bestP r (others r.length i) K).2] 0 = some (.int (bestP r (others r.length i) K).1) := rfl
  simp only [B_out, e_seq, e_asg, e_xO, others_lc h, Res.bind_ok, List.set_cons_succ, List.set_cons_zero, e_then_next, e_freeze, List.getElem?_cons_succ, List.getElem?_cons_zero, e_app, e_bin, e_call, e_aCons, e_aNil, e_var, m_best_for h (grp_others h i), e_c, x_t, e1, lift_some, at_row hi, val_at h (bestP_len) (bestP_ent) hi, p_sub]
  rw [if_pos (DL.sizeLt (by omega))]
  rfl
@[simp] theorem m_outcome {r : List (List Int)} {K : Nat} (h : RK r K) (μ : Mu) : F_outcome [rT r] μ = .ok (.tuple [iT (win r K), iL (pays r K)]) μ := by
  have hr := h.room.most
  refine fn_ret (show D_outcome [some (.v (rT r)), none, none, none, none, none, none, none] μ = _ from ?_)
  obtain ⟨sd', h1, x4, x5, x6, x7, rfl⟩ := for_push (μ := μ) (tgt := g2 4 5) (fb := B_out) (fun i => PyData.tuple [nD i, .int ((win r K).getD i 0)]) (fun L sd => ∃ x4 x5 x6 x7, sd = [some (.v (rT r)), some (.v (.int (top r K))), some (.v (iT (win r K))), some (.own L), x4, x5, x6, x7]) (fun i => .int (pay r K i)) (xs := everyN r) (fun i hi L sd ⟨x4, x5, x6, x7, e⟩ hL => by
    subst e
    exact ⟨_, _, rfl, out_one h μ (List.mem_range.mp hi) L hL x6 x7 _, _, _, _, _, rfl⟩) (L := []) (sd := [some (.v (rT r)), some (.v (.int (top r K))), some (.v (iT (win r K))), some (.own []), none, none, none, none]) ⟨_, _, _, _, rfl⟩ (by simp; omega)
  have e0 : D_outcome = sSeq (sUnp (g2 1 2) (dCall F_best_for (aCons (dVar 0) (aCons (dCall F_everyone (aCons (dVar 0) aNil)) aNil)))) (sSeq (sAsg 3 (xO (dLst aNil))) (sSeq (sFor (iEn (dVar 2)) (g2 4 5) B_out) (sFreeze 3 (sRet (dTup (aCons (dVar 2) (aCons (dVar 3) aNil))))))) := rfl
  rw [e0]
  generalize B_out = bb at *
  have he := enum_ints (win r K)
  rw [bestP_len] at he
  have hg := grp_all h
  simp only [e_seq, e_unp, e_call, e_aCons, e_aNil, e_var, List.getElem?_cons_zero, Res.bind_ok, m_everyone r (by omega), m_best_for h hg, e_g2, List.set_cons_succ, List.set_cons_zero, e_then_next, e_asg, e_xO, e_lst, List.length_nil]
  rw [if_pos (by decide)]
  simp only [lift_some, Res.bind_ok, e_then_next, e_seq, e_sFor, e_iEn, e_var, List.getElem?_cons_succ, List.getElem?_cons_zero, s_t, lift_some, he]
  rw [h1]
  simp only [Res.bind_ok, e_then_next, e_freeze, List.getElem?_cons_succ, List.getElem?_cons_zero, List.set_cons_succ, List.set_cons_zero, e_ret, e_tup, e_aCons, e_aNil, e_var, List.length_cons, List.length_nil]
  rw [if_pos (by decide)]
  simp only [lift_some, Res.bind_ok, List.nil_append, pays, iL, List.map_map]
  rfl
end OL

set_option maxHeartbeats 4000000
/-! OLThy: best totals of groups: monotone; what a bidder pays and keeps. -/
namespace OL
open PySem DL
/-- the best total of a group -/
abbrev W (r : List (List Int)) (K : Nat) (G : List Nat) : Int := (bestP r G K).1
section
variable {r : List (List Int)} {K : Nat} {n : Nat}
theorem mem_allA {G : List Nat} {a : List Int} : a ∈ allA n G K ↔ a ∈ rawA n G K := (List.mergeSort_perm _ _).mem_iff
theorem W_ge {G : List Nat} {a : List Int} (h : a ∈ rawA r.length G K) : tot r a ≤ W r K G := (bestP_is r G K).1.top a (mem_allA.mpr h)
theorem W_at (r : List (List Int)) (K : Nat) (G : List Nat) : (bestP r G K).2 ∈ rawA r.length G K ∧ tot r (bestP r G K).2 = W r K G := ⟨mem_allA.mp (bestP_is r G K).1.mem, (bestP_is r G K).1.val⟩
theorem rawA_mono {G G' : List Nat} (h : ∀ g ∈ G, g ∈ G') : ∀ (k : Nat), ∀ a ∈ rawA n G k, a ∈ rawA n G' k
  | 0, a, ha => ha
  | k + 1, a, ha => by
    unfold rawA at ha ⊢
    rcases List.mem_append.mp ha with ha | ha
    · exact List.mem_append_left _ (rawA_mono h k a ha)
    · obtain ⟨b, hb, ha⟩ := List.mem_flatMap.mp ha
      obtain ⟨g, hg, rfl⟩ := List.mem_map.mp ha
      exact List.mem_append_right _ (List.mem_flatMap.mpr ⟨b, rawA_mono h k b hb, List.mem_map.mpr ⟨g, h g hg, rfl⟩⟩)
theorem W_mono {G G' : List Nat} (h : ∀ g ∈ G, g ∈ G') : W r K G ≤ W r K G' := by
  obtain ⟨h1, h2⟩ := W_at r K G
  rw [← h2]
  exact W_ge (rawA_mono h K _ h1)
theorem rawA_drop {G G' : List Nat} (i : Nat) (h : ∀ g ∈ G, g ≠ i → g ∈ G') : ∀ (k : Nat), ∀ a ∈ rawA n G k, a.set i 0 ∈ rawA n G' k
  | 0, a, ha => by
    have e : a = List.replicate n 0 := by simpa [rawA] using ha
    subst e
    have : (List.replicate n (0 : Int)).set i 0 = List.replicate n 0 := by
      apply List.ext_getElem?
      intro j
      by_cases hj : i = j
      · subst hj
        by_cases hl : i < n
        · rw [List.getElem?_set_self (by simpa using hl), List.getElem?_replicate, if_pos hl]
        · rw [List.getElem?_eq_none (by simp; omega), List.getElem?_eq_none (by simp; omega)]
      · rw [List.getElem?_set_ne hj]
    rw [this]
    simp [rawA]
  | k + 1, a, ha => by
    unfold rawA at ha ⊢
    rcases List.mem_append.mp ha with ha | ha
    · exact List.mem_append_left _ (rawA_drop i h k a ha)
    · obtain ⟨b, hb, ha⟩ := List.mem_flatMap.mp ha
      obtain ⟨g, hg, rfl⟩ := List.mem_map.mp ha
      have ih := rawA_drop i h k b hb
      by_cases e : g = i
      · subst e
        unfold addAt
        rw [List.set_set]
        exact List.mem_append_left _ ih
      · refine List.mem_append_right _ (List.mem_flatMap.mpr ⟨b.set i 0, ih, List.mem_map.mpr ⟨g, h g hg e, ?_⟩⟩)
        unfold addAt
        rw [List.set_comm _ _ (Ne.symm e)]
        congr 2
        rw [List.getD_eq_getElem?_getD, List.getD_eq_getElem?_getD, List.getElem?_set_ne (Ne.symm e)]
theorem rawA_zero {G : List Nat} : ∀ (k : Nat), List.replicate n 0 ∈ rawA n G k
  | 0 => by simp [rawA]
  | k + 1 => by
    unfold rawA
    exact List.mem_append_left _ (rawA_zero k)
/-! ### totals by places -/
theorem tot_sum (r : List (List Int)) (a : List Int) (h : a.length = r.length) : tot r a = ((List.range r.length).map (val r a)).sum := by
  unfold tot
  congr 1
  apply List.ext_getElem?
  intro i
  rw [List.getElem?_map, List.getElem?_map]
  by_cases hi : i < r.length
  · rw [List.getElem?_range hi, List.getElem?_eq_getElem (l := r.zip a) (by rw [List.length_zip]; omega)]
    simp only [Option.map_some, List.getElem_zip, val]
    rw [List.getD_eq_getElem?_getD (l := r), List.getElem?_eq_getElem hi, List.getD_eq_getElem?_getD (l := a), List.getElem?_eq_getElem (by omega)]
    rfl
  · rw [List.getElem?_eq_none (by rw [List.length_zip]; omega), List.getElem?_eq_none (by rw [List.length_range]; omega)]
    rfl
theorem sum_set (f g : Nat → Int) : ∀ (n i : Nat), i < n → (∀ j, j ≠ i → f j = g j) → ((List.range n).map f).sum = ((List.range n).map g).sum - g i + f i
  | 0, i, h, _ => absurd h (by omega)
  | n + 1, i, h, k => by
    rw [List.range_succ, List.map_append, List.map_append, List.sum_append, List.sum_append]
    simp only [List.map_cons, List.map_nil, List.sum_cons, List.sum_nil]
    by_cases e : i = n
    · subst e
      have : (List.range i).map f = (List.range i).map g := List.map_congr_left fun j hj => k j (by have := List.mem_range.mp hj; omega)
      rw [this]
      omega
    · have ih := sum_set f g n i (by omega) k
      rw [ih, k n (Ne.symm e)]
      omega
theorem bid_zero (h : RK r K) {b : List Int} (hb : b ∈ r) : b.getD 0 0 = 0 := by
  have z := h.room.bids b hb
  unfold bidB at z
  simp only [Bool.and_eq_true, decide_eq_true_eq] at z
  exact z.2.2.1
theorem bid_range (h : RK r K) {b : List Int} (hb : b ∈ r) {x : Int} (hx : x ∈ b) : 0 ≤ x ∧ x ≤ 9 := by
  have z := h.room.bids b hb
  unfold bidB at z
  simp only [Bool.and_eq_true, decide_eq_true_eq, List.all_eq_true] at z
  exact z.2.1 x hx
theorem row_mem {i : Nat} (hi : i < r.length) : r.getD i [] ∈ r := by
  rw [List.getD_eq_getElem?_getD, List.getElem?_eq_getElem hi]
  exact List.getElem_mem hi
theorem val_set_self (h : RK r K) {a : List Int} {i : Nat} (hi : i < r.length) (ha : a.length = r.length) : val r (a.set i 0) i = 0 := by
  unfold val
  have e : (a.set i 0).getD i 0 = 0 := by
    rw [List.getD_eq_getElem?_getD, List.getElem?_set_self (by omega)]
    rfl
  rw [e]
  exact bid_zero h (row_mem hi)
theorem val_set_ne {a : List Int} {i j : Nat} (x : Int) (hij : j ≠ i) : val r (a.set i x) j = val r a j := by
  unfold val
  congr 2
  rw [List.getD_eq_getElem?_getD, List.getD_eq_getElem?_getD, List.getElem?_set_ne (Ne.symm hij)]
theorem tot_drop (h : RK r K) {a : List Int} {i : Nat} (hi : i < r.length) (ha : a.length = r.length) : tot r (a.set i 0) = tot r a - val r a i := by
  rw [tot_sum r _ (by rw [List.length_set]; exact ha), tot_sum r a ha]
  rw [sum_set (val r (a.set i 0)) (val r a) r.length i hi fun j hj => val_set_ne 0 hj, val_set_self h hi ha]
  omega
theorem getD_mem {b : List Int} {k : Nat} (h : k < b.length) : b.getD k 0 ∈ b := by
  rw [List.getD_eq_getElem?_getD, List.getElem?_eq_getElem h]
  exact List.getElem_mem h
theorem val_nonneg (h : RK r K) {a : List Int} (ha : a.length = r.length) (hx : ∀ x ∈ a, 0 ≤ x ∧ x < ((2 ^ K : Nat) : Int)) {i : Nat} (hi : i < r.length) : 0 ≤ val r a i ∧ val r a i ≤ 9 := by
  have hb := row_mem hi
  have hm : a.getD i 0 ∈ a := by
    rw [List.getD_eq_getElem?_getD, List.getElem?_eq_getElem (by omega)]
    exact List.getElem_mem (by omega)
  have h3 := hx _ hm
  unfold val
  have hl := h.room.len hb
  have h4 : (a.getD i 0).toNat < (r.getD i []).length := by omega
  exact bid_range h hb (getD_mem h4)
/-! ### pays, keeps -/
theorem win_len : (win r K).length = r.length := bestP_len
theorem tot_win : tot r (win r K) = top r K := (W_at r K _).2
theorem W_others (h : RK r K) {i : Nat} (hi : i < r.length) : top r K - val r (win r K) i ≤ W r K (others r.length i) := by
  rw [← tot_win, ← tot_drop h hi win_len]
  refine W_ge (rawA_drop i (fun g hg hne => ?_) K _ (W_at r K _).1)
  exact List.mem_filter.mpr ⟨hg, by simp [hne]⟩
theorem W_le_top {G : List Nat} (hG : ∀ g ∈ G, g < r.length) : W r K G ≤ top r K := W_mono fun g hg => List.mem_range.mpr (hG g hg)
theorem others_lt {i : Nat} : ∀ g ∈ others n i, g < n := fun g hg => List.mem_range.mp (List.mem_filter.mp hg).1
theorem pay_nonneg (h : RK r K) {i : Nat} (hi : i < r.length) : 0 ≤ pay r K i := by
  have := W_others h hi
  unfold pay
  show 0 ≤ W r K (others r.length i) - _
  omega
def keep (r : List (List Int)) (K i : Nat) : Int := val r (win r K) i - pay r K i
theorem keep_eq (i : Nat) : keep r K i = top r K - W r K (others r.length i) := by
  unfold keep pay
  show _ - (W r K (others r.length i) - _) = _
  omega
theorem keep_nonneg (i : Nat) : 0 ≤ keep r K i := by
  rw [keep_eq]
  have := W_le_top (r := r) (K := K) (others_lt (n := r.length) (i := i))
  omega
theorem sum_nonneg {α : Type} (f : α → Int) : ∀ {l : List α}, (∀ x ∈ l, 0 ≤ f x) → 0 ≤ (l.map f).sum
  | [], _ => by simp
  | x :: l, h => by
    rw [List.map_cons, List.sum_cons]
    have h1 := h x List.mem_cons_self
    have h2 := sum_nonneg f (l := l) fun y hy => h y (List.mem_cons_of_mem _ hy)
    omega
theorem pays_nonneg (h : RK r K) : 0 ≤ (pays r K).sum := sum_nonneg _ fun i hi => pay_nonneg h (List.mem_range.mp hi)
theorem tot_zero (h : RK r K) : tot r (List.replicate r.length 0) = 0 := by
  rw [tot_sum r _ (by simp)]
  have : (List.range r.length).map (val r (List.replicate r.length 0)) = (List.range r.length).map fun _ => 0 := List.map_congr_left fun i hi => by
    have hi := List.mem_range.mp hi
    unfold val
    have e : (List.replicate r.length (0 : Int)).getD i 0 = 0 := by
      rw [List.getD_eq_getElem?_getD, List.getElem?_replicate, if_pos hi]
      rfl
    rw [e]
    exact bid_zero h (row_mem hi)
  rw [this]
  induction r.length with
  | zero => rfl
  | succ m ih => rw [List.range_succ, List.map_append, List.sum_append, ih]; rfl
theorem W_nonneg (h : RK r K) (G : List Nat) : 0 ≤ W r K G := by
  have := W_ge (r := r) (K := K) (rawA_zero (n := r.length) (G := G) K)
  rw [tot_zero h] at this
  exact this
theorem rawA_nil : ∀ (k : Nat), ∀ a ∈ rawA n [] k, a = List.replicate n 0
  | 0, a, ha => by simpa [rawA] using ha
  | k + 1, a, ha => by
    unfold rawA at ha
    rcases List.mem_append.mp ha with ha | ha
    · exact rawA_nil k a ha
    · obtain ⟨b, hb, ha⟩ := List.mem_flatMap.mp ha
      simp at ha
theorem W_nil (h : RK r K) : W r K [] = 0 := by
  obtain ⟨h1, h2⟩ := W_at r K []
  rw [← h2, rawA_nil K _ h1]
  exact tot_zero h
end
end OL

set_option maxHeartbeats 4000000
/-! OLMir5: payments, keeps, groups that object. -/
namespace OL
open PySem DL
section
variable {r : List (List Int)} {K : Nat}
theorem RK.len (h : RK r K) : r.length ≤ 4 := h.room.most
@[simp] theorem m_payments (h : RK r K) (μ : Mu) : F_payments [rT r] μ = .ok (iL (pays r K)) μ := by
  refine fn_ret (show D_payments [some (.v (rT r))] μ = _ from ?_)
  have e1 : L2.atI [iT (win r K), iL (pays r K)] 1 = some (iL (pays r K)) := rfl
  simp only [D_payments, e_seq, e_drop, e_call, e_aCons, e_aNil, e_var, List.getElem?_cons_zero, Res.bind_ok, m_check_room h.room, e_then_next, e_ret, e_bin, m_outcome h, e_c, x_t, e1, lift_some]
@[simp] theorem m_best_allotment (h : RK r K) (μ : Mu) : F_best_allotment [rT r] μ = .ok (iT (win r K)) μ := by
  refine fn_ret (show D_best_allotment [some (.v (rT r))] μ = _ from ?_)
  have e1 : L2.atI [PyData.int (top r K), iT (win r K)] 1 = some (iT (win r K)) := rfl
  have hl := h.len
  simp only [D_best_allotment, e_seq, e_drop, e_call, e_aCons, e_aNil, e_var, List.getElem?_cons_zero, Res.bind_ok, m_check_room h.room, e_then_next, e_ret, e_bin, m_everyone r (by omega), m_best_for h (grp_all h), e_c, x_t, e1, lift_some]
def keeps (r : List (List Int)) (K : Nat) : List Int := (everyN r).map (keep r K)
theorem zip3_map {α : Type} (f g u : α → D) : ∀ l : List α, zip3D (l.map f) (l.map g) (l.map u) = l.map fun x => .tuple [f x, g x, u x]
  | [] => rfl
  | x :: l => by
    simp only [List.map_cons]
    show _ :: zip3D _ _ _ = _
    rw [zip3_map f g u l]
theorem getD_any {α : Type} {l : List α} {k : Nat} (d : α) (h : k < l.length) : l[k]? = some (l.getD k d) := by
  rw [List.getD_eq_getElem?_getD, List.getElem?_eq_getElem h]
  rfl
theorem rows_range (r : List (List Int)) : r.map iT = (List.range r.length).map fun i => iT (r.getD i []) := by
  apply List.ext_getElem?
  intro i
  rw [List.getElem?_map, List.getElem?_map]
  by_cases hi : i < r.length
  · rw [List.getElem?_range hi, getD_any [] hi]
    rfl
  · rw [List.getElem?_eq_none (by omega), List.getElem?_eq_none (by rw [List.length_range]; omega)]
    rfl
theorem ints_range (a : List Int) : a.map PyData.int = (List.range a.length).map fun i => .int (a.getD i 0) := by
  apply List.ext_getElem?
  intro i
  rw [List.getElem?_map, List.getElem?_map]
  by_cases hi : i < a.length
  · rw [List.getElem?_range hi, List.getElem?_eq_getElem hi]
    have q := getD_of hi
    rw [List.getElem?_eq_getElem hi] at q
    simp only [Option.map_some, ← Option.some.inj q]
  · rw [List.getElem?_eq_none (by omega), List.getElem?_eq_none (by rw [List.length_range]; omega)]
    rfl
@[simp] theorem m_kept_list (h : RK r K) (μ : Mu) : F_kept_list [rT r] μ = .ok (iL (keeps r K)) μ := by
  have hl := h.len
  refine fn_ret (show D_kept_list [some (.v (rT r)), none, none, none, none, none] μ = _ from ?_)
  have hz : zip3D (r.map iT) ((win r K).map .int) ((pays r K).map .int) = (everyN r).map fun i => .tuple [iT (r.getD i []), .int ((win r K).getD i 0), .int (pay r K i)] := by
    have h2 := ints_range (win r K)
    rw [win_len] at h2
    rw [rows_range r, h2, pays, List.map_map]
    exact zip3_map (fun i => iT (r.getD i [])) (fun i => PyData.int ((win r K).getD i 0)) (fun i => PyData.int (pay r K i)) (List.range r.length)
  have z := lc_map (μ := μ) (tgt := g3 3 4 5) (fe := dBin pySub (dBin pyIx (dVar 3) (dVar 4)) (dVar 5)) (sdw := [some (.v (rT r)), some (.v (iT (win r K))), some (.v (iL (pays r K))), none, none, none]) (fun i => PyData.tuple [iT (r.getD i []), .int ((win r K).getD i 0), .int (pay r K i)]) (fun i => PyData.int (keep r K i)) (xs := everyN r) fun i hi => ⟨_, rfl, by
    simp only [e_bin, e_var, List.set_cons_succ, List.set_cons_zero, List.getElem?_cons_succ, List.getElem?_cons_zero, Res.bind_ok, x_t, val_at h bestP_len bestP_ent (List.mem_range.mp hi), lift_some, p_sub]
    rfl⟩
  unfold D_kept_list
  simp only [e_seq, e_unp, e_call, e_aCons, e_aNil, e_var, List.getElem?_cons_zero, Res.bind_ok, m_outcome h, e_g2, List.set_cons_succ, List.set_cons_zero, e_then_next, e_ret, e_share, e_lc, e_iZ3, List.getElem?_cons_succ, zip3Of, lift_some, hz]
  rw [if_pos (by rw [List.length_map, List.length_range]; omega)]
  show ((nx (lcLoop _ _ _ [some (.v (rT r)), some (.v (iT (win r K))), some (.v (iL (pays r K))), none, none, none] _ μ)).bind _).bind _ = _
  rw [z]
  simp only [nx_ok, Res.bind_ok, keeps, iL, List.map_map]
  rfl
@[simp] theorem m_kept (h : RK r K) (μ : Mu) : F_kept [rT r] μ = .ok (iL (keeps r K)) μ := by
  refine fn_ret (show D_kept [some (.v (rT r))] μ = _ from ?_)
  simp only [D_kept, e_seq, e_drop, e_call, e_aCons, e_aNil, e_var, List.getElem?_cons_zero, Res.bind_ok, m_check_room h.room, e_then_next, e_ret, m_kept_list h]
/-! ### groups -/
structure Asc (n : Nat) (G : List Nat) : Prop where
  lt : ∀ g ∈ G, g < n
  asc : G.Pairwise (· < ·)
theorem asc_len {n : Nat} {G : List Nat} (h : Asc n G) : G.length ≤ n := by
  have key : ∀ (m : Nat) (G : List Nat), G.Pairwise (· < ·) → (∀ g ∈ G, m ≤ g ∧ g < n) → G.length ≤ n - m := by
    intro m G hp hb
    induction G generalizing m with
    | nil => simp
    | cons g G ih =>
      rw [List.pairwise_cons] at hp
      have h1 := hb g List.mem_cons_self
      have := ih (g + 1) hp.2 fun x hx => ⟨hp.1 x hx, (hb x (List.mem_cons_of_mem _ hx)).2⟩
      rw [List.length_cons]
      omega
  have := key 0 G h.asc fun g hg => ⟨Nat.zero_le _, h.lt g hg⟩
  omega
theorem grp_of (h : RK r K) {G : List Nat} (a : Asc r.length G) : Grp r.length G := ⟨a.lt, Nat.le_trans (asc_len a) h.len⟩
abbrev gT (G : List Nat) : D := .tuple (G.map nD)
theorem cut_one (xs : List D) : cutD xs (some 1) none = xs.drop 1 := by
  cases xs with
  | nil => rfl
  | cons x xs => exact cut_from (xs := x :: xs) (k := 1) (by simp)
theorem zip_asc : ∀ {G : List Nat}, G.Pairwise (· < ·) → ∀ p ∈ G.zip (G.drop 1), p.1 < p.2
  | [], _, p, hp => by simp at hp
  | [_], _, p, hp => by simp at hp
  | x :: y :: G, h, p, hp => by
    have hp : p = (x, y) ∨ p ∈ (y :: G).zip G := by simpa using hp
    rw [List.pairwise_cons] at h
    rcases hp with rfl | hp
    · exact h.1 y List.mem_cons_self
    · exact zip_asc h.2 p (by simpa using hp)
@[simp] theorem m_check_group (h : RK r K) {G : List Nat} (a : Asc r.length G) (μ : Mu) : F_check_group [rT r, gT G] μ = .ok .none μ := by
  have hl := h.len
  have hg := asc_len a
  refine fn_next (sd := [some (.v (rT r)), some (.v (gT G)), none, none]) (show D_check_group [some (.v (rT r)), some (.v (gT G)), none, none] μ = _ from ?_)
  have z1 := lc_map (μ := μ) (tgt := gN 2) (fe := dCall F_is_integer (aCons (dVar 2) (aCons (dC (.int 0)) (aCons (dBin pySub (dCB pyLen (aCons (dVar 0) aNil)) (dC (.int 1))) aNil)))) (sdw := [some (.v (rT r)), some (.v (gT G)), none, none]) nD (fun g => PyData.bool (decide (0 ≤ (g : Int) ∧ (g : Int) ≤ (r.length : Int) - 1))) (xs := G) fun g hg => ⟨_, rfl, by
    simp only [e_call, e_aCons, e_aNil, e_var, e_c, e_bin, e_cb, List.set_cons_succ, List.set_cons_zero, List.getElem?_cons_succ, List.getElem?_cons_zero, Res.bind_ok, l_t, List.length_map, lift_some, p_sub, m_is_integer]⟩
  have z2 := lc_map (μ := μ) (tgt := g2 2 3) (fe := dBin pyLt (dVar 2) (dVar 3)) (sdw := [some (.v (rT r)), some (.v (gT G)), none, none]) (fun p : Nat × Nat => PyData.tuple [nD p.1, nD p.2]) (fun p => PyData.bool (decide ((p.1 : Int) < (p.2 : Int)))) (xs := G.zip (G.drop 1)) fun p hp => ⟨_, rfl, by
    simp only [e_bin, e_var, List.set_cons_succ, List.set_cons_zero, List.getElem?_cons_succ, List.getElem?_cons_zero, Res.bind_ok, p_lt, lift_some]⟩
  have a1 : (G.all fun g => decide (0 ≤ (g : Int) ∧ (g : Int) ≤ (r.length : Int) - 1)) = true := List.all_eq_true.mpr fun g hg => decide_eq_true (by have := a.lt g hg; omega)
  have a2 : ((G.zip (G.drop 1)).all fun p => decide ((p.1 : Int) < (p.2 : Int))) = true := List.all_eq_true.mpr fun p hp => decide_eq_true (by have := zip_asc a.asc p hp; omega)
  have hz : zip2D (G.map nD) (cutD (G.map nD) (some 1) none) = (G.zip (G.drop 1)).map fun p => .tuple [nD p.1, nD p.2] := by
    rw [cut_one, ← List.map_drop, zip2_map]
  have q1 : dLc (iAny (dVar 1)) (gN 2) dYes (dCall F_is_integer (aCons (dVar 2) (aCons (dC (.int 0)) (aCons (dBin pySub (dCB pyLen (aCons (dVar 0) aNil)) (dC (.int 1))) aNil)))) [2] [some (.v (rT r)), some (.v (gT G)), none, none] μ = .ok (G.map fun g : Nat => PyData.bool (decide (0 ≤ (g : Int) ∧ (g : Int) ≤ (r.length : Int) - 1))) μ := by
    simp only [e_lc, e_iAny, e_var, List.getElem?_cons_succ, List.getElem?_cons_zero, Res.bind_ok, i_t, lift_some]
    rw [if_pos (by rw [List.length_map]; omega)]
    show nx (lcLoop _ _ _ [some (.v (rT r)), some (.v (gT G)), none, none] _ μ) = _
    rw [z1]
    rfl
  have q2 : dLc (iZ2 (dVar 1) (dSl (dVar 1) (oSome (dC (.int 1))) oNone)) (g2 2 3) dYes (dBin pyLt (dVar 2) (dVar 3)) [2, 3] [some (.v (rT r)), some (.v (gT G)), none, none] μ = .ok ((G.zip (G.drop 1)).map fun p => PyData.bool (decide ((p.1 : Int) < (p.2 : Int)))) μ := by
    simp only [e_lc, e_iZ2, e_sl, e_oSome, e_oNone, e_c, a_i, e_var, List.getElem?_cons_succ, List.getElem?_cons_zero, Res.bind_ok, lift_some, pySl, zip2Of, hz]
    rw [if_pos (by rw [List.length_map, List.length_zip]; omega)]
    show nx (lcLoop _ _ _ [some (.v (rT r)), some (.v (gT G)), none, none] _ μ) = _
    rw [z2]
    rfl
  unfold D_check_group
  simp only [e_seq, e_sIf, e_or, e_not, e_test, e_isi, e_var, List.getElem?_cons_succ, List.getElem?_cons_zero, Res.bind_ok, isi_tt, lift_some, a_b, Bool.not_true, if_neg Bool.false_ne_true, e_cb, e_aCons, e_aNil, e_share, q1, q2, all_map', a1, a2, e_next, e_then_next]
@[simp] theorem m_best_total (h : RK r K) {G : List Nat} (a : Asc r.length G) (μ : Mu) : F_best_total [rT r, gT G] μ = .ok (.int (W r K G)) μ := by
  refine fn_ret (show D_best_total [some (.v (rT r)), some (.v (gT G))] μ = _ from ?_)
  have e1 : L2.atI [PyData.int (bestP r G K).1, iT (bestP r G K).2] 0 = some (.int (W r K G)) := rfl
  simp only [D_best_total, e_seq, e_drop, e_call, e_aCons, e_aNil, e_var, List.getElem?_cons_succ, List.getElem?_cons_zero, Res.bind_ok, m_check_room h.room, m_check_group h a, e_then_next, e_ret, e_bin, e_share, e_list, s_t, lift_some, m_best_for h (grp_of h a), e_c, x_t, e1]
def gainB (r : List (List Int)) (K : Nat) (G : List Nat) : Bool := decide ((pays r K).sum + (G.map (keep r K)).sum < W r K G)
@[simp] theorem m_gains (h : RK r K) {G : List Nat} (a : Asc r.length G) (μ : Mu) : F_gains [rT r, gT G] μ = .ok (.bool (gainB r K G)) μ := by
  have hl := h.len
  have hg := asc_len a
  refine fn_ret (show D_gains [some (.v (rT r)), some (.v (gT G)), none, none] μ = _ from ?_)
  have z1 := lc_map (μ := μ) (tgt := gN 3) (fe := dBin pyIx (dVar 2) (dVar 3)) (sdw := [some (.v (rT r)), some (.v (gT G)), some (.v (iL (keeps r K))), none]) nD (fun g => PyData.int (keep r K g)) (xs := G) fun g hg => ⟨_, rfl, by
    have e1 : L2.atI ((keeps r K).map PyData.int) (g : Int) = some (.int (keep r K g)) := by
      unfold keeps everyN
      rw [at_nat, List.map_map, List.getElem?_map, List.getElem?_range (a.lt g hg)]
      rfl
    simp only [e_bin, e_var, List.set_cons_succ, List.set_cons_zero, List.getElem?_cons_succ, List.getElem?_cons_zero, Res.bind_ok, x_l, e1, lift_some]⟩
  have q1 : dLc (iAny (dVar 1)) (gN 3) dYes (dBin pyIx (dVar 2) (dVar 3)) [3] [some (.v (rT r)), some (.v (gT G)), some (.v (iL (keeps r K))), none] μ = .ok (G.map fun g => PyData.int (keep r K g)) μ := by
    simp only [e_lc, e_iAny, e_var, List.getElem?_cons_succ, List.getElem?_cons_zero, Res.bind_ok, i_t, lift_some]
    rw [if_pos (by rw [List.length_map]; omega)]
    show nx (lcLoop _ _ _ [some (.v (rT r)), some (.v (gT G)), some (.v (iL (keeps r K))), none] _ μ) = _
    rw [z1]
    rfl
  have e1 : L2.atI [PyData.int (bestP r G K).1, iT (bestP r G K).2] 0 = some (.int (W r K G)) := rfl
  have e2 : L2.atI [iT (win r K), iL (pays r K)] 1 = some (iL (pays r K)) := rfl
  have e3 : pySum [iL (pays r K)] μ = some (.int (pays r K).sum) := by
    show (asInts ((pays r K).map PyData.int)).map (fun ns => PyData.int ns.sum) = _
    rw [asInts_of]
    rfl
  simp only [D_gains, e_seq, e_asg, e_xV, e_call, e_aCons, e_aNil, e_var, List.getElem?_cons_succ, List.getElem?_cons_zero, Res.bind_ok, m_kept_list h, List.set_cons_succ, List.set_cons_zero, e_then_next, e_ret, e_bin, e_share, e_list, s_t, lift_some, m_best_for h (grp_of h a), e_c, x_t, e1, m_outcome h, e2, e_cb, e3, q1, sum_map', p_add, p_gt]
  rfl
@[simp] theorem m_objects (h : RK r K) {G : List Nat} (a : Asc r.length G) (μ : Mu) : F_objects [rT r, gT G] μ = .ok (.bool (gainB r K G)) μ := by
  refine fn_ret (show D_objects [some (.v (rT r)), some (.v (gT G))] μ = _ from ?_)
  simp only [D_objects, e_seq, e_drop, e_call, e_aCons, e_aNil, e_var, List.getElem?_cons_succ, List.getElem?_cons_zero, Res.bind_ok, m_check_room h.room, m_check_group h a, e_then_next, e_ret, m_gains h a]
end
end OL

set_option maxHeartbeats 4000000
/-! OLMir6: the groups that object; bids of several kinds. -/
namespace OL
open PySem DL
def grps : Nat → List (List Nat)
  | 0 => [[]]
  | k + 1 => grps k ++ (grps k).map fun G => G ++ [k]
theorem grps_len : ∀ k, (grps k).length = 2 ^ k
  | 0 => rfl
  | k + 1 => by
    unfold grps
    rw [List.length_append, List.length_map, grps_len k, Nat.pow_succ]
    omega
theorem grps_asc : ∀ (k : Nat), ∀ G ∈ grps k, Asc k G
  | 0, G, h => by
    have h : G = [] := by simpa [grps] using h
    subst h
    exact ⟨fun g hg => by simp at hg, .nil⟩
  | k + 1, G, h => by
    unfold grps at h
    rcases List.mem_append.mp h with h | h
    · have := grps_asc k G h
      exact ⟨fun g hg => Nat.lt_succ_of_lt (this.lt g hg), this.asc⟩
    · obtain ⟨F, hF, rfl⟩ := List.mem_map.mp h
      have := grps_asc k F hF
      refine ⟨fun g hg => ?_, List.pairwise_append.mpr ⟨this.asc, by simp, fun a ha b hb => ?_⟩⟩
      · rcases List.mem_append.mp hg with hg | hg
        · exact Nat.lt_succ_of_lt (this.lt g hg)
        · have : g = k := by simpa using hg
          omega
      · have : b = k := by simpa using hb
        subst this
        exact (grps_asc b F hF).lt a ha
section
variable {r : List (List Int)} {K : Nat}
abbrev gL (A : List (List Nat)) : D := .list (A.map gT)
abbrev B_grp : DS := sAsg 1 (xV (dBin pyAdd (dVar 1) (dShare (dLc (iAny (dVar 1)) (gN 3) dYes (dBin pyAdd (dVar 3) (dTup (aCons (dVar 2) aNil))) [3]))))
theorem grp_step (room : D) (k : Nat) (hk : k ≤ 4) (μ : Mu) (y : Option Sl) : B_grp [some (.v room), some (.v (gL (grps k))), some (.v (nD k)), y] μ = .ok (.next [some (.v room), some (.v (gL (grps (k + 1)))), some (.v (nD k)), y]) μ := by
  have hl := grps_len k
  have h2 : 2 ^ k ≤ 2 ^ 4 := Nat.pow_le_pow_right (by decide) hk
  have z := lc_map (μ := μ) (tgt := gN 3) (fe := dBin pyAdd (dVar 3) (dTup (aCons (dVar 2) aNil))) (sdw := [some (.v room), some (.v (gL (grps k))), some (.v (nD k)), none]) gT (fun G => gT (G ++ [k])) (xs := grps k) fun G hG => ⟨_, rfl, by
    have ha := asc_len (grps_asc k G hG)
    simp only [e_bin, e_var, e_tup, e_aCons, e_aNil, List.set_cons_succ, List.set_cons_zero, List.getElem?_cons_succ, List.getElem?_cons_zero, Res.bind_ok, List.length_cons, List.length_nil]
    rw [if_pos (by decide)]
    simp only [lift_some, Res.bind_ok]
    rw [pAddT (by rw [List.length_map]; simp only [List.length_cons, List.length_nil]; omega), ← List.map_singleton (f := nD), ← List.map_append]
    rfl⟩
  simp only [B_grp, e_asg, e_xV, e_bin, e_var, List.getElem?_cons_succ, List.getElem?_cons_zero, Res.bind_ok, e_share, e_lc, e_iAny, i_l, lift_some]
  rw [if_pos (by rw [List.length_map]; omega)]
  show ((((nx (lcLoop _ _ _ [some (.v room), some (.v (gL (grps k))), some (.v (nD k)), none] _ μ)).bind _).bind _).bind _).bind _ = _
  rw [z]
  simp only [nx_ok, Res.bind_ok]
  rw [pAddL (by rw [List.length_map, List.length_map]; omega)]
  simp only [lift_some, Res.bind_ok, List.set_cons_succ, List.set_cons_zero]
  have e : (grps k).map gT ++ (grps k).map (fun G => gT (G ++ [k])) = (grps (k + 1)).map gT := by
    show _ = (grps k ++ (grps k).map fun G => G ++ [k]).map gT
    rw [List.map_append, List.map_map]
    rfl
  rw [e]
theorem grp_loop (room : D) (μ : Mu) : ∀ (m k : Nat) (x y : Option Sl), k + m ≤ 4 → ∃ x', forLoop (gN 2) B_grp ((List.range' k m).map nD) [some (.v room), some (.v (gL (grps k))), x, y] μ = .ok (.next [some (.v room), some (.v (gL (grps (k + m)))), x', y]) μ
  | 0, k, x, y, _ => ⟨x, rfl⟩
  | m + 1, k, x, y, h => by
    obtain ⟨x', ih⟩ := grp_loop room μ m (k + 1) (some (.v (nD k))) y (by omega)
    refine ⟨x', ?_⟩
    rw [List.range'_succ, List.map_cons]
    unfold forLoop
    show ((B_grp [some (.v room), some (.v (gL (grps k))), some (.v (nD k)), y] μ).bind (thenF _)) = _
    rw [grp_step room k (by omega) μ y]
    simp only [Res.bind_ok, e_then_next]
    rw [show k + (m + 1) = k + 1 + m by omega]
    exact ih
abbrev zG (G : List Nat) : List Int := G.map fun i : Nat => (i : Int)
theorem gT_iT (G : List Nat) : gT G = iT (zG G) := by
  show PyData.tuple _ = PyData.tuple _
  rw [List.map_map]
  rfl
def objL (r : List (List Int)) (K : Nat) : List (List Int) := (((grps r.length).filter (gainB r K)).map zG).mergeSort leI
theorem gain_nil (h : RK r K) : gainB r K [] = false := by
  unfold gainB
  rw [W_nil h]
  have := pays_nonneg h
  exact decide_eq_false (by simp; omega)
@[simp] theorem m_group_list (h : RK r K) (μ : Mu) : F_group_list [rT r] μ = .ok (rL (objL r K)) μ := by
  have hl := h.len
  refine fn_ret (show D_group_list [some (.v (rT r)), none, none, none] μ = _ from ?_)
  obtain ⟨x', h1⟩ := grp_loop (rT r) μ r.length 0 none none (by omega)
  have e0 : D_group_list = sSeq (sAsg 1 (xV (dShare (dLst (aCons (dTup aNil) aNil))))) (sSeq (sFor (iAny (dCall F_everyone (aCons (dVar 0) aNil))) (gN 2) B_grp) (sRet (dCB pySorted (aCons (dShare (dLc (iAny (dVar 1)) (gN 3) (dTest (dCall F_gains (aCons (dVar 0) (aCons (dVar 3) aNil)))) (dVar 3) [3])) aNil)))) := rfl
  rw [e0]
  generalize B_grp = bb at *
  rw [Nat.zero_add, ← List.range_eq_range'] at h1
  have z := lc_enc (μ := μ) (tgt := gN 3) (ft := dTest (dCall F_gains (aCons (dVar 0) (aCons (dVar 3) aNil)))) (fe := dVar 3) (sdw := [some (.v (rT r)), some (.v (gL (grps r.length))), x', none]) gT (gainB r K) gT (xs := grps r.length) fun G hG => ⟨_, rfl, by
    simp only [e_test, e_call, e_aCons, e_aNil, e_var, List.set_cons_succ, List.set_cons_zero, List.getElem?_cons_succ, List.getElem?_cons_zero, Res.bind_ok, m_gains h (grps_asc _ G hG), lift_some, a_b], fun _ => by simp only [e_var, List.set_cons_succ, List.set_cons_zero, List.getElem?_cons_succ, List.getElem?_cons_zero]⟩
  have hs := grps_len r.length
  have h2 : 2 ^ r.length ≤ 2 ^ 4 := Nat.pow_le_pow_right (by decide) hl
  have hf := List.length_filter_le (gainB r K) (grps r.length)
  have hm := m_sorted (A := ((grps r.length).filter (gainB r K)).map zG) (fun a ha e => by
    obtain ⟨G, hG, rfl⟩ := List.mem_map.mp ha
    have e : G = [] := by simpa using e
    subst e
    have := (List.mem_filter.mp hG).2
    rw [gain_nil h] at this
    cases this) (by rw [List.length_map]; omega) μ
  simp only [e_seq, e_asg, e_xV, e_share, e_lst, e_aCons, e_aNil, e_tup, Res.bind_ok, List.length_nil]
  rw [if_pos (by decide)]
  simp only [lift_some, Res.bind_ok, List.length_cons, List.length_nil]
  rw [if_pos (by decide)]
  simp only [lift_some, Res.bind_ok, List.set_cons_succ, List.set_cons_zero, e_then_next, e_seq, e_sFor, e_iAny, e_call, e_aCons, e_aNil, e_var, List.getElem?_cons_zero, m_everyone r (by omega), i_l]
  have h1 : forLoop (gN 2) bb ((List.range r.length).map nD) [some (.v (rT r)), some (.v (.list [.tuple []])), none, none] μ = _ := h1
  rw [h1]
  simp only [Res.bind_ok, e_then_next, e_ret, e_cb, e_aCons, e_aNil, e_share, e_lc, e_iAny, e_var, List.getElem?_cons_succ, List.getElem?_cons_zero, i_l, lift_some]
  rw [if_pos (by rw [List.length_map]; omega)]
  rw [show wipeD [some (.v (rT r)), some (.v (gL (grps r.length))), x', none] [3] = [some (.v (rT r)), some (.v (gL (grps r.length))), x', none] from rfl]
  rw [z]
  have e2 : ((grps r.length).filter (gainB r K)).map gT = (((grps r.length).filter (gainB r K)).map zG).map iT := by
    rw [List.map_map]
    exact List.map_congr_left fun G _ => gT_iT G
  rw [e2]
  simp only [nx_ok, Res.bind_ok, hm, lift_some]
  rfl
@[simp] theorem m_objecting (h : RK r K) (μ : Mu) : F_objecting [rT r] μ = .ok (rL (objL r K)) μ := by
  refine fn_ret (show D_objecting [some (.v (rT r))] μ = _ from ?_)
  simp only [D_objecting, e_seq, e_drop, e_call, e_aCons, e_aNil, e_var, List.getElem?_cons_zero, Res.bind_ok, m_check_room h.room, e_then_next, e_ret, m_group_list h]
theorem lst_nil (μ : Mu) (sd : Slots) : dShare (dLst aNil) sd μ = .ok (.list []) μ := by
  simp only [e_share, e_lst, e_aNil, Res.bind_ok, List.length_nil]
  rw [if_pos (by decide)]
  rfl
@[simp] theorem m_is_calm (h : RK r K) (μ : Mu) : F_is_calm [rT r] μ = .ok (.bool (decide (objL r K = []))) μ := by
  refine fn_ret (show D_is_calm [some (.v (rT r))] μ = _ from ?_)
  have e1 : pyEq (rL (objL r K)) (.list []) = some (.bool (decide (objL r K = []))) := pe_rL (objL r K) []
  unfold D_is_calm
  simp only [e_seq, e_drop, e_call, e_aCons, e_aNil, e_var, List.getElem?_cons_zero, Res.bind_ok, m_check_room h.room, e_then_next, e_ret, e_bin, m_group_list h, lst_nil, e1, lift_some]
end
end OL

set_option maxHeartbeats 4000000
/-! OLMir7: bids of several kinds; the suite's draws. -/
namespace OL
open PySem DL
structure Ws (ws : List Int) (most : Int) : Prop where
  one : 1 ≤ ws.length
  three : ws.length ≤ 3
  all : ∀ x ∈ ws, 0 ≤ x ∧ x ≤ most
@[simp] theorem m_check_worths {ws : List Int} {most : Int} (h : Ws ws most) (μ : Mu) : F_check_worths [iT ws, .int most] μ = .ok .none μ := by
  have h1 := h.one
  have h3 := h.three
  refine fn_next (sd := [some (.v (iT ws)), some (.v (.int most)), none]) (show D_check_worths [some (.v (iT ws)), some (.v (.int most)), none] μ = _ from ?_)
  have z1 := lc_map (μ := μ) (tgt := gN 2) (fe := dCall F_is_integer (aCons (dVar 2) (aCons (dC (.int 0)) (aCons (dVar 1) aNil)))) (sdw := [some (.v (iT ws)), some (.v (.int most)), none]) PyData.int (fun x => PyData.bool (decide (0 ≤ x ∧ x ≤ most))) (xs := ws) fun x hx => ⟨_, rfl, by
    simp only [e_call, e_aCons, e_aNil, e_var, e_c, List.set_cons_succ, List.set_cons_zero, List.getElem?_cons_succ, List.getElem?_cons_zero, Res.bind_ok, m_is_integer]⟩
  have a1 : (ws.all fun x => decide (0 ≤ x ∧ x ≤ most)) = true := List.all_eq_true.mpr fun g hg => decide_eq_true (h.all g hg)
  have q1 : dLc (iAny (dVar 0)) (gN 2) dYes (dCall F_is_integer (aCons (dVar 2) (aCons (dC (.int 0)) (aCons (dVar 1) aNil)))) [2] [some (.v (iT ws)), some (.v (.int most)), none] μ = .ok (ws.map fun x => PyData.bool (decide (0 ≤ x ∧ x ≤ most))) μ := by
    simp only [e_lc, e_iAny, e_var, List.getElem?_cons_succ, List.getElem?_cons_zero, Res.bind_ok, i_t, lift_some]
    rw [if_pos (by rw [List.length_map]; omega), show wipeD [some (.v (iT ws)), some (.v (.int most)), none] [2] = [some (.v (iT ws)), some (.v (.int most)), none] from rfl, z1]
    rfl
  have c1 : (1 : Int) ≤ (ws.length : Int) := by omega
  have c2 : (ws.length : Int) ≤ 3 := by omega
  unfold D_check_worths
  simp only [e_seq, e_sIf, e_or, e_not, e_test, e_isi, e_var, List.getElem?_cons_succ, List.getElem?_cons_zero, Res.bind_ok, isi_tt, lift_some, a_b, Bool.not_true, if_neg Bool.false_ne_true, e_chain, e_c, e_cb, e_aCons, e_aNil, l_t, List.length_map, p_le, decide_eq_true c1, decide_eq_true c2, if_true, e_share, q1, all_map', a1, e_next, e_then_next]
def singleL (ws : List Int) : List Int := (List.range (2 ^ ws.length)).map fun s => maxI (((tI s).map fun t => ws.getD t 0) ++ [0])
theorem tI_lt {k s : Nat} (hk : k ≤ 3) (hs : s < 2 ^ k) : ∀ t ∈ tI s, t < k := by
  have z : ∀ k ∈ List.range 4, ∀ s ∈ List.range (2 ^ k), ∀ t ∈ tI s, t < k := by decide +kernel
  exact z k (List.mem_range.mpr (by omega)) s (List.mem_range.mpr hs)
theorem sz_len {k : Nat} (h1 : 1 ≤ k) (h3 : k ≤ 3) : L2.atI [PyData.int 2, .int 4, .int 8] ((k : Int) - 1) = some (.int ((2 ^ k : Nat) : Int)) := by
  have e : (k : Int) - 1 = ((k - 1 : Nat) : Int) := by omega
  rw [e, sz_at (by omega), show k - 1 + 1 = k by omega]
theorem max_map' {α : Type} (f : α → Int) (l : List α) (x : Int) (μ : Mu) : pyMax [.list ((l.map fun y => PyData.int (f y)) ++ [.int x])] μ = some (.int (maxI (l.map f ++ [x]))) := by
  have e : (l.map fun y => PyData.int (f y)) ++ [.int x] = (l.map f ++ [x]).map PyData.int := by simp
  rw [e]
  show (asInts ((l.map f ++ [x]).map PyData.int)).bind (fun ns => if ns ≠ [] then some (PyData.int (maxI ns)) else none) = _
  rw [asInts_of, Option.bind_some, if_pos (by simp)]
theorem pow_le8 {k : Nat} (h : k ≤ 3) : 2 ^ k ≤ 8 := Nat.pow_le_pow_right (by decide : 0 < 2) h
@[simp] theorem m_single_bid {ws : List Int} (h : Ws ws 9) (μ : Mu) : F_single_bid [iT ws] μ = .ok (iT (singleL ws)) μ := by
  have h1 := h.one
  have h3 := h.three
  have h8 := pow_le8 h3
  refine fn_ret (show D_single_bid [some (.v (iT ws)), none, none, none] μ = _ from ?_)
  have zi : ∀ s ∈ List.range (2 ^ ws.length), dLc (iAny (dCall F_things_in (aCons (dVar 2) aNil))) (gN 3) dYes (dBin pyIx (dVar 0) (dVar 3)) [3] [some (.v (iT ws)), some (.v (nD (2 ^ ws.length))), some (.v (nD s)), none] μ = .ok ((tI s).map fun t => PyData.int (ws.getD t 0)) μ := fun s hs => by
    have z := lc_map (μ := μ) (tgt := gN 3) (fe := dBin pyIx (dVar 0) (dVar 3)) (sdw := [some (.v (iT ws)), some (.v (nD (2 ^ ws.length))), some (.v (nD s)), none]) nD (fun t => PyData.int (ws.getD t 0)) (xs := tI s) fun t ht => ⟨_, rfl, by
      have ht := tI_lt h3 (List.mem_range.mp hs) t ht
      simp only [e_bin, e_var, List.set_cons_succ, List.set_cons_zero, List.getElem?_cons_succ, List.getElem?_cons_zero, Res.bind_ok, x_t, at_map, getD_of ht, Option.map_some, lift_some]⟩
    have hl : (tI s).length ≤ 3 := List.length_filter_le _ _
    simp only [e_lc, e_iAny, e_call, e_aCons, e_aNil, e_var, List.getElem?_cons_succ, List.getElem?_cons_zero, Res.bind_ok, m_things_in, i_l, lift_some]
    rw [if_pos (by rw [List.length_map]; omega), show wipeD [some (.v (iT ws)), some (.v (nD (2 ^ ws.length))), some (.v (nD s)), none] [3] = [some (.v (iT ws)), some (.v (nD (2 ^ ws.length))), some (.v (nD s)), none] from rfl, z]
    rfl
  have z := lc_map (μ := μ) (tgt := gN 2) (fe := dCB pyMax (aCons (dBin pyAdd (dShare (dLc (iAny (dCall F_things_in (aCons (dVar 2) aNil))) (gN 3) dYes (dBin pyIx (dVar 0) (dVar 3)) [3])) (dShare (dLst (aCons (dC (.int 0)) aNil)))) aNil)) (sdw := [some (.v (iT ws)), some (.v (nD (2 ^ ws.length))), none, none]) nD (fun s => PyData.int (maxI (((tI s).map fun t => ws.getD t 0) ++ [0]))) (xs := List.range (2 ^ ws.length)) fun s hs => ⟨_, rfl, by
      have hl : (tI s).length ≤ 3 := List.length_filter_le _ _
      simp only [List.set_cons_succ, List.set_cons_zero, e_cb, e_aCons, e_aNil, e_bin, e_share, zi s hs, Res.bind_ok, e_lst, e_c, List.length_cons, List.length_nil]
      rw [if_pos (by decide)]
      simp only [lift_some, Res.bind_ok]
      rw [pAddL (by rw [List.length_map]; simp only [List.length_cons, List.length_nil]; omega)]
      simp only [lift_some, Res.bind_ok, max_map']⟩
  unfold D_single_bid
  simp only [e_seq, e_drop, e_call, e_aCons, e_aNil, e_var, e_c, List.getElem?_cons_zero, Res.bind_ok, m_check_worths h, e_then_next, e_asg, e_xV, e_bin, e_cb, l_t, List.length_map, lift_some, p_sub, x_t, sz_len h1 h3, List.set_cons_succ, List.set_cons_zero, e_ret, e_share, e_lc, e_iRg1, List.getElem?_cons_succ, a_i, Option.bind_some, rgOk_nat (show 2 ^ ws.length ≤ 100000 by omega), rg0n]
  rw [if_pos (by simp only [List.length_map, List.length_range]; omega), show wipeD [some (.v (iT ws)), some (.v (.int ((2 ^ ws.length : Nat) : Int))), none, none] [2] = [some (.v (iT ws)), some (.v (nD (2 ^ ws.length))), none, none] from rfl, z]
  simp only [nx_ok, Res.bind_ok, singleL, iT, List.map_map]
  rfl
/-! ### package bids -/
theorem m_check_things {k : Nat} (h1 : 1 ≤ k) (h3 : k ≤ 3) (μ : Mu) : F_check_things [nD k] μ = .ok .none μ := by
  refine fn_next (sd := [some (.v (nD k))]) (show D_check_things [some (.v (nD k))] μ = _ from ?_)
  have c : (1 : Int) ≤ (k : Int) ∧ (k : Int) ≤ 3 := ⟨by omega, by omega⟩
  simp only [D_check_things, e_sIf, e_not, e_test, e_call, e_aCons, e_aNil, e_var, e_c, List.getElem?_cons_zero, Res.bind_ok, m_is_integer, decide_eq_true c, lift_some, a_b, Bool.not_true, if_neg Bool.false_ne_true, e_next]
def holdsB (a b : Nat) : Bool := (tI b).all fun t => decide (t ∈ tI a)
theorem m_holds (a b : Nat) (μ : Mu) : F_holds [nD a, nD b] μ = .ok (.bool (holdsB a b)) μ := by
  have hl : (tI b).length ≤ 3 := List.length_filter_le _ _
  refine fn_ret (show D_holds [some (.v (nD a)), some (.v (nD b)), none] μ = _ from ?_)
  have z := lc_map (μ := μ) (tgt := gN 2) (fe := dBin pyIn (dVar 2) (dCall F_things_in (aCons (dVar 0) aNil))) (sdw := [some (.v (nD a)), some (.v (nD b)), none]) nD (fun t => PyData.bool (decide (t ∈ tI a))) (xs := tI b) fun t ht => ⟨_, rfl, by
    simp only [e_bin, e_var, e_call, e_aCons, e_aNil, List.set_cons_succ, List.set_cons_zero, List.getElem?_cons_succ, List.getElem?_cons_zero, Res.bind_ok, m_things_in, p_in, lift_some]⟩
  simp only [D_holds, e_ret, e_cb, e_aCons, e_aNil, e_share, e_lc, e_iAny, e_call, e_var, List.getElem?_cons_succ, List.getElem?_cons_zero, Res.bind_ok, m_things_in, i_l, lift_some]
  rw [if_pos (by rw [List.length_map]; omega), show wipeD [some (.v (nD a)), some (.v (nD b)), none] [2] = [some (.v (nD a)), some (.v (nD b)), none] from rfl, z]
  simp only [nx_ok, Res.bind_ok, all_map', lift_some]
  rfl
def packL (k s : Nat) (w : Int) : List Int := (List.range (2 ^ k)).map fun o => if holdsB o s = true then w else 0
@[simp] theorem m_package_bid {k s : Nat} {w : Int} (h1 : 1 ≤ k) (h3 : k ≤ 3) (hs : 1 ≤ s ∧ s < 2 ^ k) (hw : 0 ≤ w ∧ w ≤ 9) (μ : Mu) : F_package_bid [nD k, nD s, .int w] μ = .ok (iT (packL k s w)) μ := by
  have h8 := pow_le8 h3
  refine fn_ret (show D_package_bid [some (.v (nD k)), some (.v (nD s)), some (.v (.int w)), none] μ = _ from ?_)
  have z := lc_map (μ := μ) (tgt := gN 3) (fe := dIf (dTest (dCall F_holds (aCons (dVar 3) (aCons (dVar 1) aNil)))) (dVar 2) (dC (.int 0))) (sdw := [some (.v (nD k)), some (.v (nD s)), some (.v (.int w)), none]) nD (fun o => PyData.int (if holdsB o s = true then w else 0)) (xs := List.range (2 ^ k)) fun o ho => ⟨_, rfl, by
    simp only [e_if, e_test, e_call, e_aCons, e_aNil, e_var, e_c, List.set_cons_succ, List.set_cons_zero, List.getElem?_cons_succ, List.getElem?_cons_zero, Res.bind_ok, m_holds, lift_some, a_b]
    cases holdsB o s <;> rfl⟩
  have c1 : (1 : Int) ≤ (s : Int) ∧ (s : Int) ≤ ((2 ^ k : Nat) : Int) - 1 := ⟨by omega, by omega⟩
  simp only [D_package_bid, e_seq, e_drop, e_call, e_aCons, e_aNil, e_var, e_c, List.getElem?_cons_succ, List.getElem?_cons_zero, Res.bind_ok, m_check_things h1 h3, e_then_next, e_sIf, e_or, e_not, e_test, e_bin, p_sub, lift_some, x_t, sz_len h1 h3, m_is_integer, decide_eq_true c1, decide_eq_true hw, a_b, Bool.not_true, if_neg Bool.false_ne_true, e_next, e_ret, e_cb, e_share, e_lc, e_iRg1, a_i, Option.bind_some, rgOk_nat (show 2 ^ k ≤ 100000 by omega), rg0n]
  rw [if_pos (by rw [List.length_map, List.length_range]; omega), show wipeD [some (.v (nD k)), some (.v (nD s)), some (.v (.int w)), none] [3] = [some (.v (nD k)), some (.v (nD s)), some (.v (.int w)), none] from rfl, z]
  simp only [nx_ok, Res.bind_ok, packL, iT, List.map_map]
  rfl
/-! ### draws -/
abbrev scrI (ns : List Int) : D := scr (ns.map .int)
theorem l_s (ns : List Int) (μ : Mu) : DL.pyLen [scrI ns] μ = some (.int ns.length) := by
  show some (PyData.int ((ns.map PyData.int).length : Int)) = _
  rw [List.length_map]
theorem x_s (ns : List Int) (i : Int) : pyIx (scrI ns) (.int i) = L2.atI (ns.map PyData.int) i := rfl
theorem pe_s (ns : List Int) : pyEq (scrI ns) (.list []) = some (.bool (decide (ns = []))) := by
  unfold pyEq
  have e : unscr (scrI ns) = iL ns := rfl
  rw [e, if_pos ⟨(Lay.list (Lay.ints ns)).shaped, (by decide)⟩]
  show some (PyData.bool (PyData.eqv (iL ns) (iL []))) = _
  simp only [PyData.eqv, eqv_ints]
theorem mulJ {i j : Int} (h : -(2 ^ 64) < j ∧ j < 2 ^ 64) : pyMul (.int i) (.int j) = some (.int (i * j)) := by
  unfold pyMul
  exact if_pos (.inr h)
theorem min2 (i j : Int) (μ : Mu) : pyMin [.int i, .int j] μ = some (.int (min i j)) := rfl
/-- script[k % len(script)], k // 10^.. : the loop leaves a number -/
theorem spare_loop {ns : List Int} {k : Int} (μ : Mu) : ∀ (l : List Nat) (v : Int) (y : Option Sl), ∃ v' y', forLoop (gN 3) (sAsg 2 (xV (dBin pyDiv (dVar 2) (dC (.int 1000003))))) (l.map nD) [some (.v (scrI ns)), some (.v (.int k)), some (.v (.int v)), y] μ = .ok (.next [some (.v (scrI ns)), some (.v (.int k)), some (.v (.int v')), y']) μ
  | [], v, y => ⟨v, y, rfl⟩
  | x :: l, v, y => by
    obtain ⟨v', y', ih⟩ := spare_loop (ns := ns) (k := k) μ l (v / 1000003) (some (.v (nD x)))
    refine ⟨v', y', ?_⟩
    rw [List.map_cons]
    unfold forLoop
    simp only [e_gN, List.set_cons_succ, List.set_cons_zero, e_asg, e_xV, e_bin, e_var, e_c, List.getElem?_cons_succ, List.getElem?_cons_zero, Res.bind_ok, pDiv (show (0:Int) < 1000003 by decide) (show (1000003:Int) < 1073741824 by decide), lift_some, e_then_next]
    exact ih
theorem m_cell_at (ns : List Int) (hn : ns.length ≤ 63) (k : Nat) (μ : Mu) : ∃ v, F__law_cell_at [scrI ns, nD k] μ = .ok (.int v) μ := by
  suffices h : ∃ v, D__law_cell_at [some (.v (scrI ns)), some (.v (nD k)), none, none] μ = .ok (.ret (.int v)) μ from let ⟨v, h⟩ := h; ⟨v, fn_ret h⟩
  unfold D__law_cell_at
  by_cases c1 : k < ns.length
  · have c1' : (k : Int) < (ns.length : Int) := by omega
    refine ⟨ns.getD k 0, ?_⟩
    simp only [e_seq, e_sIf, e_test, e_bin, e_var, e_cb, e_aCons, e_aNil, List.getElem?_cons_succ, List.getElem?_cons_zero, Res.bind_ok, l_s, lift_some, p_lt, a_b, decide_eq_true c1', if_true, e_ret, x_s, at_map, getD_of c1, Option.map_some, e_then_ret]
  · have c1' : ¬ (k : Int) < (ns.length : Int) := by omega
    by_cases c2 : ns = []
    · refine ⟨0, ?_⟩
      simp only [e_seq, e_sIf, e_test, e_bin, e_var, e_cb, e_aCons, e_aNil, List.getElem?_cons_succ, List.getElem?_cons_zero, Res.bind_ok, l_s, lift_some, p_lt, a_b, decide_eq_false c1', if_neg Bool.false_ne_true, e_next, e_then_next, lst_nil, pe_s, decide_eq_true c2, if_true, e_ret, e_c, e_then_ret]
    · have hp : 0 < ns.length := by cases ns with | nil => exact absurd rfl c2 | cons a b => simp
      have hp' : (0 : Int) < (ns.length : Int) := by omega
      have hm : (k : Int) % (ns.length : Int) = ((k % ns.length : Nat) : Int) := by omega
      have hlt : k % ns.length < ns.length := Nat.mod_lt _ hp
      have hr : rgOk (min ((k : Int) / (ns.length : Int)) 60) = some (min ((k : Int) / (ns.length : Int)) 60) := by
        unfold rgOk
        have : 0 ≤ (k : Int) / (ns.length : Int) := Int.ediv_nonneg (by omega) (by omega)
        exact if_pos ⟨by omega, by omega⟩
      obtain ⟨v', y', hl⟩ := spare_loop (ns := ns) (k := k) μ (List.range (min ((k : Int) / (ns.length : Int)) 60).toNat) (ns.getD (k % ns.length) 0) none
      refine ⟨ns.getD (k % ns.length) 0 * 31 + k + v' * 101, ?_⟩
      simp only [e_seq, e_sIf, e_test, e_bin, e_var, e_cb, e_aCons, e_aNil, List.getElem?_cons_succ, List.getElem?_cons_zero, Res.bind_ok, l_s, lift_some, p_lt, a_b, decide_eq_false c1', if_neg Bool.false_ne_true, e_next, e_then_next, lst_nil, pe_s, decide_eq_false c2, e_asg, e_xV, pMod hp', x_s, hm, at_map, getD_of hlt, Option.map_some, List.set_cons_succ, List.set_cons_zero, e_sFor, e_iRg1, e_c, pDiv hp' (show (ns.length : Int) < 1073741824 by omega), min2, a_i, Option.bind_some, hr, rg0, hl, e_ret, mulJ (show -(2 ^ 64) < (31 : Int) ∧ (31 : Int) < 2 ^ 64 by decide), mulJ (show -(2 ^ 64) < (101 : Int) ∧ (101 : Int) < 2 ^ 64 by decide), p_add]
theorem m_mixed (ns : List Int) (hn : ns.length ≤ 63) (k : Nat) {many : Int} (hm : 0 < many) (μ : Mu) : ∃ v, 0 ≤ v ∧ v < many ∧ F__law_mixed [scrI ns, nD k, .int many] μ = .ok (.int v) μ := by
  obtain ⟨c, hc⟩ := m_cell_at ns hn k μ
  have h1 : (0 : Int) < 2147483647 := by decide
  have h2 : (0 : Int) < 999983 := by decide
  have hp : ∀ x : Int, pyPow (.int (x % 2147483647)) (.int 5) = some (.int ((x % 2147483647) ^ 5)) := fun x => by
    have := Int.emod_nonneg x (show (2147483647 : Int) ≠ 0 by decide)
    have := Int.emod_lt_of_pos x h1
    show (if (0 : Int) ≤ 5 ∧ (5 : Int) ≤ 1000000 ∧ (x % 2147483647).natAbs < 2 ^ 64 then some (PyData.int ((x % 2147483647) ^ (5 : Int).toNat)) else none) = _
    rw [if_pos ⟨by decide, by decide, by omega⟩]
    rfl
  refine ⟨(((c * 1103515245 + 7919 * k + 12345) % 2147483647) ^ 5 % 2147483647 % 999983) % many, Int.emod_nonneg _ (by omega), Int.emod_lt_of_pos _ hm, fn_ret (show D__law_mixed [some (.v (scrI ns)), some (.v (nD k)), some (.v (.int many)), none] μ = _ from ?_)⟩
  · unfold D__law_mixed
    simp only [e_seq, e_asg, e_xV, e_bin, e_call, e_aCons, e_aNil, e_var, e_c, List.getElem?_cons_succ, List.getElem?_cons_zero, Res.bind_ok, hc, lift_some, mulJ (show -(2 ^ 64) < (1103515245 : Int) ∧ (1103515245 : Int) < 2 ^ 64 by decide), mulI (show -(2 ^ 64) < (7919 : Int) ∧ (7919 : Int) < 2 ^ 64 by decide), p_add, pMod h1, pMod h2, pMod hm, List.set_cons_succ, List.set_cons_zero, e_then_next, e_ret, hp]
/-- the town: how many draws there were -/
def Town (R μ : Mu) (m : Nat) : Prop := ∃ zs, μ = .lst zs :: R ∧ zs = List.replicate m (.int 0)
theorem m_draw (ns : List Int) (hn : ns.length ≤ 63) {many : Int} (hm : 0 < many) {R μ : Mu} {m : Nat} (hT : Town R μ m) (hl : m ≤ 10000) : ∃ v μ', 0 ≤ v ∧ v < many ∧ F__law_draw [scrI ns, tok 0, .int many] μ = .ok (.int v) μ' ∧ Town R μ' (m + 1) := by
  obtain ⟨zs, rfl, hz0⟩ := hT
  have hz : zs.length = m := by rw [hz0, List.length_replicate]
  obtain ⟨v, h1, h2, h3⟩ := m_mixed ns hn (m + 1) hm (.lst (zs ++ [.int 0]) :: R)
  refine ⟨v, (.lst (zs ++ [.int 0]) :: R), h1, h2, fn_ret (show D__law_draw [some (.v (scrI ns)), some (.v (tok 0)), some (.v (.int many))] (.lst zs :: R) = _ from ?_), zs ++ [.int 0], rfl, by rw [hz0, List.replicate_succ']⟩
  have e1 : sAppT 1 (dC (.int 0)) [some (.v (scrI ns)), some (.v (tok 0)), some (.v (.int many))] (.lst zs :: R) = .ok (.next [some (.v (scrI ns)), some (.v (tok 0)), some (.v (.int many))]) (.lst (zs ++ [.int 0]) :: R) := by
    show (if zs.length < sizeLine then _ else _) = _
    rw [if_pos (DL.sizeLt (by omega))]
    rfl
  have e2 : DL.pyLen [tok 0] (.lst (zs ++ [.int 0]) :: R) = some (nD (m + 1)) := by
    show some (PyData.int _) = _
    rw [List.length_append, hz]
    rfl
  simp only [D__law_draw, e_seq, e1, Res.bind_ok, e_then_next, e_ret, e_call, e_aCons, e_aNil, e_var, e_cb, List.getElem?_cons_succ, List.getElem?_cons_zero, e2, lift_some, h3]
end OL

set_option maxHeartbeats 4000000
/-! OLMir8: the suite's random bids and rooms are bids and rooms. -/
namespace OL
open PySem DL
/-! ### what makes a bid -/
structure IsBid (n : Nat) (b : List Int) : Prop where
  len : b.length = n
  rng : ∀ x ∈ b, 0 ≤ x ∧ x ≤ 9
  zero : b.getD 0 0 = 0
  mono : ∀ s, s < n → ∀ t ∈ tI s, b.getD (s - 2 ^ t) 0 ≤ b.getD s 0
theorem tI_up {s t : Nat} (hs : s < 8) (ht : t < 3) (h : t ∉ tI s) (h8 : s + 2 ^ t < 8) : t ∈ tI (s + 2 ^ t) ∧ s + 2 ^ t - 2 ^ t = s := by
  have z : ∀ s ∈ List.range 8, ∀ t ∈ List.range 3, t ∉ tI s → s + 2 ^ t < 8 → t ∈ tI (s + 2 ^ t) ∧ s + 2 ^ t - 2 ^ t = s := by decide +kernel
  exact z s (List.mem_range.mpr hs) t (List.mem_range.mpr ht) h h8
theorem IsBid.ok {n : Nat} (hn : n = 2 ∨ n = 4 ∨ n = 8) {b : List Int} (h : IsBid n b) : bidB n b = true := by
  have hr : risesB b = true := by
    refine List.all_eq_true.mpr fun s hs => List.all_eq_true.mpr fun t ht => ?_
    have hs : s < n := by have := List.mem_range.mp hs; rw [h.len] at this; exact this
    have ht := List.mem_range.mp ht
    unfold falls
    rw [h.len]
    by_cases c1 : 2 ^ t < n
    · by_cases c2 : t ∈ tI s
      · rw [decide_eq_true c2]
        simp
      · have up := up_in hn hs ht c1 c2
        have q := tI_up (s := s) (t := t) (by omega) ht c2 (by omega)
        have m := h.mono (s + 2 ^ t) up t q.1
        rw [q.2] at m
        rw [decide_eq_false (show ¬ b.getD (s + 2 ^ t) 0 < b.getD s 0 by omega)]
        simp
    · rw [decide_eq_false c1]
      rfl
  unfold bidB
  rw [hr, h.zero, decide_eq_true h.len]
  have : (b.all fun x => decide (0 ≤ x ∧ x ≤ 9)) = true := List.all_eq_true.mpr fun x hx => decide_eq_true (h.rng x hx)
  rw [this]
  rfl
theorem tI_down {s t : Nat} (hs : s < 8) (ht : t ∈ tI s) : (tI s).Perm (t :: tI (s - 2 ^ t)) := by
  have z : ∀ s ∈ List.range 8, ∀ t ∈ tI s, ((tI s).isPerm (t :: tI (s - 2 ^ t))) = true := by decide +kernel
  exact List.isPerm_iff.mp (z s (List.mem_range.mpr hs) t ht)
theorem map_getD {f : Nat → Int} {n s : Nat} (h : s < n) : ((List.range n).map f).getD s 0 = f s := by
  rw [List.getD_eq_getElem?_getD, List.getElem?_map, List.getElem?_range h]
  rfl
theorem bid_of {n : Nat} (hn : n = 2 ∨ n = 4 ∨ n = 8) (f : Nat → Int) (h1 : ∀ s, s < n → 0 ≤ f s ∧ f s ≤ 9) (h0 : f 0 = 0) (hm : ∀ s, s < n → ∀ t ∈ tI s, f (s - 2 ^ t) ≤ f s) : IsBid n ((List.range n).map f) := by
  refine ⟨by simp, fun x hx => ?_, by rw [map_getD (by omega)]; exact h0, fun s hs t ht => ?_⟩
  · obtain ⟨s, hs, rfl⟩ := List.mem_map.mp hx
    exact h1 s (List.mem_range.mp hs)
  · rw [map_getD hs, map_getD (Nat.lt_of_le_of_lt (Nat.sub_le _ _) hs)]
    exact hm s hs t ht
theorem perm_sum {l l' : List Int} (p : l.Perm l') : l.sum = l'.sum := by
  induction p with
  | nil => rfl
  | cons x _ ih => rw [List.sum_cons, List.sum_cons, ih]
  | swap x y l => simp only [List.sum_cons]; omega
  | trans _ _ ih1 ih2 => exact ih1.trans ih2
/-- a sum bid -/
theorem sum_isBid {k : Nat} (h1 : 1 ≤ k) (h3 : k ≤ 3) {ws : List Int} (hl : ws.length = k) (hw : ∀ x ∈ ws, 0 ≤ x ∧ x ≤ 3) : IsBid (2 ^ k) ((List.range (2 ^ k)).map fun s => ((tI s).map fun t => ws.getD t 0).sum) := by
  have h8 := pow_le8 h3
  have g : ∀ t, 0 ≤ ws.getD t 0 ∧ ws.getD t 0 ≤ 3 := fun t => by
    by_cases ht : t < ws.length
    · exact hw _ (getD_mem ht)
    · rw [List.getD_eq_getElem?_getD, List.getElem?_eq_none (by omega)]
      decide
  have up : ∀ l : List Nat, 0 ≤ (l.map fun t => ws.getD t 0).sum ∧ (l.map fun t => ws.getD t 0).sum ≤ 3 * l.length := fun l => by
    induction l with
    | nil => simp
    | cons t l ih =>
      rw [List.map_cons, List.sum_cons, List.length_cons]
      have := g t
      omega
  refine bid_of (by rcases (show k = 1 ∨ k = 2 ∨ k = 3 by omega) with rfl | rfl | rfl <;> simp) _ (fun s hs => ?_) ?_ fun s hs t ht => ?_
  · have := up (tI s)
    have : (tI s).length ≤ 3 := List.length_filter_le _ _
    omega
  · have : tI 0 = [] := by decide
    rw [this]
    rfl
  · have p := (tI_down (by omega) ht).map fun t => ws.getD t 0
    rw [perm_sum p]
    rw [List.map_cons, List.sum_cons]
    have := g t
    omega
/-- a single bid -/
theorem maxI_ge {l : List Int} {x : Int} (h : x ∈ l) : x ≤ maxI l := (maxI_mem (List.ne_nil_of_mem h)).2 x h
theorem maxI_le {l : List Int} {m : Int} (h : l ≠ []) (k : ∀ x ∈ l, x ≤ m) : maxI l ≤ m := k _ (maxI_mem h).1
theorem max_isBid {k : Nat} (h1 : 1 ≤ k) (h3 : k ≤ 3) {ws : List Int} (hl : ws.length = k) (hw : ∀ x ∈ ws, 0 ≤ x ∧ x ≤ 9) : IsBid (2 ^ k) ((List.range (2 ^ k)).map fun s => maxI (0 :: (tI s).map fun t => ws.getD t 0)) := by
  have h8 := pow_le8 h3
  have g : ∀ t, 0 ≤ ws.getD t 0 ∧ ws.getD t 0 ≤ 9 := fun t => by
    by_cases ht : t < ws.length
    · exact hw _ (getD_mem ht)
    · rw [List.getD_eq_getElem?_getD, List.getElem?_eq_none (by omega)]
      decide
  refine bid_of (by rcases (show k = 1 ∨ k = 2 ∨ k = 3 by omega) with rfl | rfl | rfl <;> simp) _ (fun s hs => ⟨maxI_ge List.mem_cons_self, maxI_le (List.cons_ne_nil _ _) fun x hx => ?_⟩) ?_ fun s hs t ht => maxI_le (List.cons_ne_nil _ _) fun x hx => ?_
  · rcases List.mem_cons.mp hx with rfl | hx
    · decide
    · obtain ⟨t, _, rfl⟩ := List.mem_map.mp hx
      exact (g t).2
  · have : tI 0 = [] := by decide
    rw [this]
    rfl
  · rcases List.mem_cons.mp hx with rfl | hx
    · exact maxI_ge List.mem_cons_self
    · obtain ⟨u, hu, rfl⟩ := List.mem_map.mp hx
      refine maxI_ge (List.mem_cons_of_mem _ (List.mem_map.mpr ⟨u, ?_, rfl⟩))
      exact (tI_down (by omega) ht).mem_iff.mpr (List.mem_cons_of_mem _ hu)
/-- a package bid -/
theorem pack_isBid {k goal : Nat} (h1 : 1 ≤ k) (h3 : k ≤ 3) (hg : 1 ≤ goal ∧ goal < 2 ^ k) {w : Int} (hw : 0 ≤ w ∧ w ≤ 9) : IsBid (2 ^ k) ((List.range (2 ^ k)).map fun s => if (tI goal).filter (fun t => !decide (t ∈ tI s)) = [] then w else 0) := by
  have h8 := pow_le8 h3
  refine bid_of (by rcases (show k = 1 ∨ k = 2 ∨ k = 3 by omega) with rfl | rfl | rfl <;> simp) _ (fun s hs => ?_) ?_ fun s hs t ht => ?_
  · split <;> omega
  · have z : ∀ g ∈ List.range 8, 1 ≤ g → ¬ (tI g).filter (fun t => !decide (t ∈ tI 0)) = [] := by decide +kernel
    rw [if_neg (z goal (List.mem_range.mpr (by omega)) hg.1)]
  · by_cases c : (tI goal).filter (fun u => !decide (u ∈ tI (s - 2 ^ t))) = []
    · have c' : (tI goal).filter (fun u => !decide (u ∈ tI s)) = [] := by
        rw [List.filter_eq_nil_iff] at c ⊢
        intro u hu
        have := c u hu
        have q : u ∈ tI (s - 2 ^ t) := by simpa using this
        have : u ∈ tI s := (tI_down (by omega) ht).mem_iff.mpr (List.mem_cons_of_mem _ q)
        simp [this]
      rw [if_pos c, if_pos c']
      omega
    · rw [if_neg c]
      split <;> omega
end OL

set_option maxHeartbeats 4000000
/-! OLMir9: the suite's some_bid and some_room. -/
namespace OL
open PySem DL
theorem seq_next {s h : DS} {sd sd' : Slots} {μ μ' : Mu} {r : Res Flw} (h1 : s sd μ = .ok (.next sd') μ') (h2 : h sd' μ' = r) : sSeq s h sd μ = r := by
  rw [e_seq, h1]
  exact h2
theorem seq_ret {s h : DS} {sd : Slots} {μ μ' : Mu} {d : D} (h1 : s sd μ = .ok (.ret d) μ') : sSeq s h sd μ = .ok (.ret d) μ' := by
  rw [e_seq, h1]
  rfl
theorem keep_next {i : Nat} {s : DS} {sd : Slots} {μ : Mu} {xs : List D} {r : Res Flw} (h1 : sd[i]? = some (some (.own xs))) (h2 : s (sd.set i (some (.v (tok μ.length)))) (μ ++ [.lst xs]) = r) : sKeep i s sd μ = r := by
  rw [e_keep, h1]
  exact h2
theorem freeze_next {i : Nat} {s : DS} {sd : Slots} {μ : Mu} {xs : List D} {r : Res Flw} (h1 : sd[i]? = some (some (.own xs))) (h2 : s (sd.set i (some (.v (.list xs)))) μ = r) : sFreeze i s sd μ = r := by
  rw [e_freeze, h1]
  exact h2
theorem if_f {ft : DT} {s h : DS} {sd : Slots} {μ μ1 : Mu} {r : Res Flw} (h1 : ft sd μ = .ok false μ1) (h2 : h sd μ1 = r) : sIf ft s h sd μ = r := by
  rw [e_sIf, h1]
  exact h2
theorem if_t {ft : DT} {s h : DS} {sd : Slots} {μ μ1 : Mu} {r : Res Flw} (h1 : ft sd μ = .ok true μ1) (h2 : s sd μ1 = r) : sIf ft s h sd μ = r := by
  rw [e_sIf, h1]
  exact h2
theorem asg_v {i : Nat} {fe : DE} {sd : Slots} {μ μ' : Mu} {d : D} (h : fe sd μ = .ok d μ') : sAsg i (xV fe) sd μ = .ok (.next (sd.set i (some (.v d)))) μ' := by
  rw [e_asg, e_xV, h]
  rfl
theorem ret_v {fe : DE} {sd : Slots} {μ μ' : Mu} {d : D} (h : fe sd μ = .ok d μ') : sRet fe sd μ = .ok (.ret d) μ' := by
  rw [e_ret, h]
  rfl
theorem lst3 (a b c : Int) (sd : Slots) (μ : Mu) : dShare (dLst (aCons (dC (.int a)) (aCons (dC (.int b)) (aCons (dC (.int c)) aNil)))) sd μ = .ok (.list [.int a, .int b, .int c]) μ := by
  simp only [e_share, e_lst, e_aCons, e_aNil, e_c, Res.bind_ok, List.length_cons, List.length_nil]
  rw [if_pos (by decide)]
  rfl
@[simp] theorem m_inside (s : Nat) (μ : Mu) : F__law_inside [nD s] μ = .ok (.list ((tI s).map nD)) μ := by
  refine fn_ret (show D__law_inside [some (.v (nD s)), none, none] μ = _ from ?_)
  have z := lc_enc (μ := μ) (tgt := g2 1 2) (ft := dTest (dBin pyEq (dBin pyMod (dBin pyDiv (dVar 0) (dVar 2)) (dC (.int 2))) (dC (.int 1)))) (fe := dVar 1) (sdw := [some (.v (nD s)), none, none]) (fun t => PyData.tuple [nD t, nD (2 ^ t)]) (fun t => decide (s / 2 ^ t % 2 = 1)) nD (xs := List.range 3) fun t ht => ⟨_, rfl, by
    have h2 := two_pos (List.mem_range.mp ht)
    simp only [e_test, e_bin, e_var, e_c, List.set_cons_succ, List.set_cons_zero, List.getElem?_cons_succ, List.getElem?_cons_zero, Res.bind_ok, pDiv h2.1 h2.2, lift_some, pMod (show (0:Int) < 2 by decide), p_eq, a_b]
    congr 1
    rw [decide_eq_decide]
    omega, fun _ => by simp only [e_var, List.set_cons_succ, List.set_cons_zero, List.getElem?_cons_succ, List.getElem?_cons_zero]⟩
  have en : enumD [PyData.int 1, .int 2, .int 4] = (List.range 3).map fun t => PyData.tuple [nD t, nD (2 ^ t)] := rfl
  have q : iEn (dShare (dLst (aCons (dC (.int 1)) (aCons (dC (.int 2)) (aCons (dC (.int 4)) aNil))))) [some (.v (nD s)), none, none] μ = .ok ((List.range 3).map fun t => PyData.tuple [nD t, nD (2 ^ t)]) μ := by
    simp only [e_iEn, lst3, Res.bind_ok, s_l, lift_some, en]
  simp only [D__law_inside, e_ret, e_share, e_lc, q, Res.bind_ok]
  have z : lcLoop (g2 1 2) (dTest (dBin pyEq (dBin pyMod (dBin pyDiv (dVar 0) (dVar 2)) (dC (.int 2))) (dC (.int 1)))) (dVar 1) (wipeD [some (.v (nD s)), none, none] [1, 2]) ((List.range 3).map fun t => PyData.tuple [nD t, nD (2 ^ t)]) μ = _ := z
  rw [if_pos (by decide), z]
  rfl
abbrev slW (ns : List Int) (s2 s3 s4 s5 s6 s7 s8 s9 s10 s11 s12 : Option Sl) : Slots := [some (.v (scrI ns)), some (.v (tok 0)), s2, s3, s4, s5, s6, s7, s8, s9, s10, s11, s12]
section
variable (ns : List Int) (hn : ns.length ≤ 63)
include hn
theorem lc_draws {many : Int} (hm : 0 < many) (s2 s3 s4 s5 s6 s7 s8 s9 s10 s11 s12 : Option Sl) : ∀ (l : List Nat) (μ : Mu) (m : Nat), Town R μ m → m + l.length ≤ 10000 →
    ∃ (vs : List Int) (μ' : Mu), lcLoop (gN 6) dYes (dCall F__law_draw (aCons (dVar 0) (aCons (dVar 1) (aCons (dC (.int many)) aNil)))) (slW ns s2 s3 s4 s5 s6 s7 s8 s9 s10 s11 s12) (l.map nD) μ = .ok (vs.map .int) μ' ∧ vs.length = l.length ∧ (∀ v ∈ vs, 0 ≤ v ∧ v < many) ∧ Town R μ' (m + l.length)
  | [], μ, m, hT, _ => ⟨[], μ, rfl, rfl, fun v hv => by simp at hv, hT⟩
  | x :: l, μ, m, hT, hl => by
    rw [List.length_cons] at hl
    obtain ⟨v, μ1, v1, v2, hv, hT1⟩ := m_draw ns hn hm hT (by omega)
    obtain ⟨vs, μ', h1, h2, h3, h4⟩ := lc_draws hm s2 s3 s4 s5 s6 s7 s8 s9 s10 s11 s12 l μ1 (m + 1) hT1 (by omega)
    refine ⟨v :: vs, μ', ?_, by rw [List.length_cons, List.length_cons, h2], fun u hu => ?_, by rw [List.length_cons]; rw [show m + (l.length + 1) = m + 1 + l.length by omega]; exact h4⟩
    · rw [List.map_cons]
      unfold lcLoop
      simp only [e_gN, slW, List.set_cons_succ, List.set_cons_zero, e_yes, nx_ok, Res.bind_ok, if_true, e_call, e_aCons, e_aNil, e_var, e_c, List.getElem?_cons_succ, List.getElem?_cons_zero, hv]
      have h1 : lcLoop (gN 6) dYes (dCall F__law_draw (aCons (dVar 0) (aCons (dVar 1) (aCons (dC (.int many)) aNil)))) [some (.v (scrI ns)), some (.v (tok 0)), s2, s3, s4, s5, s6, s7, s8, s9, s10, s11, s12] (l.map nD) μ1 = _ := h1
      rw [h1]
      rfl
    · rcases List.mem_cons.mp hu with rfl | hu
      · exact ⟨v1, v2⟩
      · exact h3 u hu
theorem worths_lc {many : Int} (hm : 0 < many) {k : Nat} (hk : k ≤ 3) (s3 s4 s5 s6 s7 s8 s9 s10 s11 s12 : Option Sl) {μ : Mu} {m : Nat} (hT : Town R μ m) (hl : m ≤ 9000) :
    ∃ (ws : List Int) (μ' : Mu), dShare (dLc (iRg1 (dVar 2)) (gN 6) dYes (dCall F__law_draw (aCons (dVar 0) (aCons (dVar 1) (aCons (dC (.int many)) aNil)))) [6]) (slW ns (some (.v (nD k))) s3 s4 s5 s6 s7 s8 s9 s10 s11 s12) μ = .ok (.list (ws.map .int)) μ' ∧ ws.length = k ∧ (∀ v ∈ ws, 0 ≤ v ∧ v < many) ∧ Town R μ' (m + k) := by
  obtain ⟨ws, μ', h1, h2, h3, h4⟩ := lc_draws ns hn hm (some (.v (nD k))) s3 s4 s5 none s7 s8 s9 s10 s11 s12 (List.range k) μ m hT (by rw [List.length_range]; omega)
  rw [List.length_range] at h2 h4
  refine ⟨ws, μ', ?_, h2, h3, h4⟩
  simp only [e_share, e_lc, e_iRg1, slW, e_var, List.getElem?_cons_succ, List.getElem?_cons_zero, Res.bind_ok, a_i, Option.bind_some, rgOk_nat (show k ≤ 100000 by omega), lift_some, rg0n]
  rw [if_pos (by rw [List.length_map, List.length_range]; omega)]
  show ((nx (lcLoop _ _ _ (slW ns (some (.v (nD k))) s3 s4 s5 none s7 s8 s9 s10 s11 s12) _ μ)).bind _) = _
  rw [h1]
  rfl
end
end OL

set_option maxHeartbeats 4000000
/-! OLMir13: prices. -/
namespace OL
open PySem DL
section
variable {r : List (List Int)} {K n : Nat}
theorem row0 (h : RK r K) : L2.atI (r.map iT) 0 = some (iT (r.getD 0 [])) ∧ (r.getD 0 []).length = 2 ^ K := by
  have := h.room.one
  exact ⟨at_row (i := 0) (by omega), h.room.len (row_mem (by omega))⟩
theorem len_row0 (h : RK r K) (sd : Slots) (h0 : sd[0]? = some (some (.v (rT r)))) (μ : Mu) : dCB DL.pyLen (aCons (dBin pyIx (dVar 0) (dC (.int 0))) aNil) sd μ = .ok (nD (2 ^ K)) μ := by
  obtain ⟨h1, h2⟩ := row0 h
  simp only [e_cb, e_aCons, e_aNil, e_bin, e_var, h0, e_c, Res.bind_ok, x_t, h1, lift_some, l_t, List.length_map, h2]
theorem tI_full {k : Nat} (h1 : 1 ≤ k) (h3 : k ≤ 3) : tI (2 ^ k - 1) = List.range k := by
  rcases (show k = 1 ∨ k = 2 ∨ k = 3 by omega) with rfl | rfl | rfl <;> decide
@[simp] theorem m_count_things (h : RK r K) (μ : Mu) : F_count_things [rT r] μ = .ok (nD K) μ := by
  refine fn_ret (show D_count_things [some (.v (rT r))] μ = _ from ?_)
  have h2 := Nat.two_pow_pos K
  have e : ((2 ^ K : Nat) : Int) - 1 = ((2 ^ K - 1 : Nat) : Int) := by omega
  have ht := m_things_in (2 ^ K - 1) μ
  rw [tI_full h.k1 h.k3] at ht
  have l0 := len_row0 h [some (.v (rT r))] rfl μ
  generalize hq : dCB DL.pyLen (aCons (dBin pyIx (dVar 0) (dC (.int 0))) aNil) = q at l0
  unfold D_count_things
  rw [hq]
  simp only [e_ret, e_cb, e_aCons, e_aNil, e_call, e_bin, l0, e_c, Res.bind_ok, p_sub, lift_some, e, ht, l_l, List.length_map, List.length_range]
def priceOf (p : List Int) (s : Nat) : Int := ((tI s).map fun t => p.getD t 0).sum
theorem m_price_of {p : List Int} {k s : Nat} (hk : k ≤ 3) (hp : p.length = k) (hs : s < 2 ^ k) (μ : Mu) : F_price_of [iT p, nD s] μ = .ok (.int (priceOf p s)) μ := by
  refine fn_ret (show D_price_of [some (.v (iT p)), some (.v (nD s)), none] μ = _ from ?_)
  have hl : (tI s).length ≤ 3 := List.length_filter_le _ _
  have z := lc_map (μ := μ) (tgt := gN 2) (fe := dBin pyIx (dVar 0) (dVar 2)) (sdw := [some (.v (iT p)), some (.v (nD s)), none]) nD (fun t => PyData.int (p.getD t 0)) (xs := tI s) fun t ht => ⟨_, rfl, by
    have ht := tI_lt hk hs t ht
    simp only [e_bin, e_var, List.set_cons_succ, List.set_cons_zero, List.getElem?_cons_succ, List.getElem?_cons_zero, Res.bind_ok, x_t, at_map, getD_of (show t < p.length by omega), Option.map_some, lift_some]⟩
  simp only [D_price_of, e_ret, e_cb, e_aCons, e_aNil, e_share, e_lc, e_iAny, e_call, e_var, List.getElem?_cons_succ, List.getElem?_cons_zero, Res.bind_ok, m_things_in, i_l, lift_some]
  rw [if_pos (by rw [List.length_map]; omega), show wipeD [some (.v (iT p)), some (.v (nD s)), none] [2] = [some (.v (iT p)), some (.v (nD s)), none] from rfl, z]
  simp only [nx_ok, Res.bind_ok, sum_map', lift_some]
  rfl
theorem sum_setN : ∀ {a : List Int} {g : Nat} {p : Int}, g < a.length → (addAt a g p).sum = a.sum + p
  | x :: a, 0, p, _ => by
    show (((x + p) :: a) : List Int).sum = _
    rw [List.sum_cons, List.sum_cons]
    omega
  | x :: a, g + 1, p, h => by
    have ih := sum_setN (a := a) (g := g) (p := p) (by simpa using h)
    show ((x :: addAt a g p) : List Int).sum = _
    rw [List.sum_cons, List.sum_cons, ih]
    omega
theorem rawA_sum {G : List Nat} (hG : ∀ g ∈ G, g < n) : ∀ (k : Nat), ∀ a ∈ rawA n G k, 0 ≤ a.sum ∧ a.sum ≤ ((2 ^ k : Nat) : Int) - 1
  | 0, a, ha => by
    have e : a = List.replicate n 0 := by simpa [rawA] using ha
    subst e
    have : (List.replicate n (0 : Int)).sum = 0 := by
      clear ha hG
      induction n with
      | zero => rfl
      | succ m ih => rw [List.replicate_succ, List.sum_cons, ih]; rfl
    rw [this]
    decide
  | k + 1, a, ha => by
    have e2 : (2 ^ (k + 1) : Nat) = 2 * 2 ^ k := by rw [Nat.pow_succ]; omega
    unfold rawA at ha
    rcases List.mem_append.mp ha with ha | ha
    · have := rawA_sum hG k a ha
      omega
    · obtain ⟨b, hb, ha⟩ := List.mem_flatMap.mp ha
      obtain ⟨g, hg, rfl⟩ := List.mem_map.mp ha
      have := rawA_sum hG k b hb
      rw [sum_setN (by rw [rawA_mem k b hb]; exact hG g hg)]
      omega
/-- what a bidder keeps at most at these prices -/
def most (b p : List Int) : Int := maxI ((List.range b.length).map fun s => b.getD s 0 - priceOf p s)
def partsB (r : List (List Int)) (K : Nat) (a p : List Int) : Bool := decide (priceOf p (((2 ^ K : Nat) : Int) - 1 - a.sum).toNat ≤ 0) && (r.zip a).all fun q => decide (most q.1 p ≤ q.1.getD q.2.toNat 0 - priceOf p q.2.toNat)
abbrev IP : DA := dLc (iEn (dVar 3)) (g2 6 7) dYes (dBin pySub (dVar 7) (dCall F_price_of (aCons (dVar 2) (aCons (dVar 6) aNil)))) [6, 7]
abbrev B_parts : DS := sSeq (sAsg 5 (xV (dCB pyMax (aCons (dShare IP) aNil))))
    (sIf (dTest (dBin pyGt (dVar 5) (dBin pySub (dBin pyIx (dVar 3) (dVar 4)) (dCall F_price_of (aCons (dVar 2) (aCons (dVar 4) aNil)))))) (sRet (dC (.bool false))) sNext)
theorem max_mapR (f : Nat → Int) {m : Nat} (h : 0 < m) (μ : Mu) : pyMax [.list ((List.range m).map fun y => PyData.int (f y))] μ = some (.int (maxI ((List.range m).map f))) := by
  have e : ((List.range m).map fun y => PyData.int (f y)) = ((List.range m).map f).map PyData.int := by simp
  rw [e]
  show (asInts (((List.range m).map f).map PyData.int)).bind (fun ns => if ns ≠ [] then some (PyData.int (maxI ns)) else none) = _
  rw [asInts_of, Option.bind_some, if_pos fun q => by
    have := congrArg List.length q
    simp at this
    omega]
theorem m_parts (h : RK r K) {a p : List Int} (hx : ∀ x ∈ a, 0 ≤ x ∧ x < ((2 ^ K : Nat) : Int)) (hs : 0 ≤ a.sum ∧ a.sum ≤ ((2 ^ K : Nat) : Int) - 1) (hp : p.length = K) (μ : Mu) : F_parts [rT r, iT a, iT p] μ = .ok (.bool (partsB r K a p)) μ := by
  have h8 := pow_le8 h.k3
  have h2 := Nat.two_pow_pos K
  have hl := h.len
  refine fn_ret (show D_parts [some (.v (rT r)), some (.v (iT a)), some (.v (iT p)), none, none, none, none, none] μ = _ from ?_)
  have e0 : D_parts = sSeq (sIf (dTest (dBin pyGt (dCall F_price_of (aCons (dVar 2) (aCons (dBin pySub (dBin pySub (dCB DL.pyLen (aCons (dBin pyIx (dVar 0) (dC (.int 0))) aNil)) (dC (.int 1))) (dCB pySum (aCons (dVar 1) aNil))) aNil))) (dC (.int 0)))) (sRet (dC (.bool false))) sNext)
    (sSeq (sFor (iZ2 (dVar 0) (dVar 1)) (g2 3 4) B_parts) (sRet (dC (.bool true)))) := rfl
  rw [e0]
  have hrest : ((2 ^ K : Nat) : Int) - 1 - a.sum = (((((2 ^ K : Nat) : Int) - 1 - a.sum).toNat : Nat) : Int) := by omega
  have hpr := m_price_of h.k3 hp (s := (((2 ^ K : Nat) : Int) - 1 - a.sum).toNat) (by omega) μ
  have hsum : pySum [iT a] μ = some (.int a.sum) := by
    show (asInts (a.map PyData.int)).map (fun ns => PyData.int ns.sum) = _
    rw [asInts_of]
    rfl
  have test : dTest (dBin pyGt (dCall F_price_of (aCons (dVar 2) (aCons (dBin pySub (dBin pySub (dCB DL.pyLen (aCons (dBin pyIx (dVar 0) (dC (.int 0))) aNil)) (dC (.int 1))) (dCB pySum (aCons (dVar 1) aNil))) aNil))) (dC (.int 0))) [some (.v (rT r)), some (.v (iT a)), some (.v (iT p)), none, none, none, none, none] μ = .ok (decide (0 < priceOf p (((2 ^ K : Nat) : Int) - 1 - a.sum).toNat)) μ := by
    have l0 := len_row0 h [some (.v (rT r)), some (.v (iT a)), some (.v (iT p)), none, none, none, none, none] rfl μ
    generalize dCB DL.pyLen (aCons (dBin pyIx (dVar 0) (dC (.int 0))) aNil) = q at l0
    simp only [e_test, e_bin, e_call, e_aCons, e_aNil, e_var, List.getElem?_cons_succ, List.getElem?_cons_zero, l0, e_c, Res.bind_ok, p_sub, lift_some, e_cb, hsum]
    rw [hrest, hpr]
    simp only [Res.bind_ok, p_gt, lift_some, a_b, Int.toNat_natCast]
  have lp := for_encC (μ := μ) (tgt := g2 3 4) (fb := B_parts) (fun q : List Int × Int => PyData.tuple [iT q.1, .int q.2]) (fun sd => ∃ x3 x4 x5 x6 x7, sd = [some (.v (rT r)), some (.v (iT a)), some (.v (iT p)), x3, x4, x5, x6, x7]) (fun q => !decide (most q.1 p ≤ q.1.getD q.2.toNat 0 - priceOf p q.2.toNat)) (.bool false) (xs := r.zip a) (fun q hq sd ⟨x3, x4, x5, x6, x7, e⟩ => ⟨_, rfl, by
    subst e
    obtain ⟨b, x⟩ := q
    have hz := List.of_mem_zip hq
    have hb := h.room.len hz.1
    have hxx := hx x hz.2
    have exn : PyData.int x = nD x.toNat := by show _ = PyData.int _; congr 1; omega
    have zz := lc_map (μ := μ) (tgt := g2 6 7) (fe := dBin pySub (dVar 7) (dCall F_price_of (aCons (dVar 2) (aCons (dVar 6) aNil)))) (sdw := [some (.v (rT r)), some (.v (iT a)), some (.v (iT p)), some (.v (iT b)), some (.v (.int x)), x5, none, none]) (fun i => PyData.tuple [nD i, .int (b.getD i 0)]) (fun s => PyData.int (b.getD s 0 - priceOf p s)) (xs := List.range b.length) fun s hs => ⟨_, rfl, by
      have hs := List.mem_range.mp hs
      simp only [e_bin, e_call, e_aCons, e_aNil, e_var, List.set_cons_succ, List.set_cons_zero, List.getElem?_cons_succ, List.getElem?_cons_zero, Res.bind_ok, m_price_of h.k3 hp (show s < 2 ^ K by omega), p_sub, lift_some]⟩
    have q2 : IP [some (.v (rT r)), some (.v (iT a)), some (.v (iT p)), some (.v (iT b)), some (.v (.int x)), x5, x6, x7] μ = .ok ((List.range b.length).map fun s => PyData.int (b.getD s 0 - priceOf p s)) μ := by
      simp only [IP, e_lc, e_iEn, e_var, List.getElem?_cons_succ, List.getElem?_cons_zero, Res.bind_ok, s_t, lift_some, enum_ints]
      rw [if_pos (by rw [List.length_map, List.length_range]; omega)]
      show nx (lcLoop _ _ _ [some (.v (rT r)), some (.v (iT a)), some (.v (iT p)), some (.v (iT b)), some (.v (.int x)), x5, none, none] _ μ) = _
      rw [zz]
      rfl
    have hm := max_mapR (fun s => b.getD s 0 - priceOf p s) (m := b.length) (by omega) μ
    have hpx := m_price_of h.k3 hp (s := x.toNat) (by omega) μ
    have hax := at_int (b := b) hxx.1 (by omega)
    have fin : ∀ y : Bool, (sIf (dTest (dBin pyGt (dVar 5) (dBin pySub (dBin pyIx (dVar 3) (dVar 4)) (dCall F_price_of (aCons (dVar 2) (aCons (dVar 4) aNil)))))) (sRet (dC (.bool false))) sNext) [some (.v (rT r)), some (.v (iT a)), some (.v (iT p)), some (.v (iT b)), some (.v (.int x)), some (.v (.int (most b p))), x6, x7] μ = if most b p ≤ b.getD x.toNat 0 - priceOf p x.toNat then .ok (.next [some (.v (rT r)), some (.v (iT a)), some (.v (iT p)), some (.v (iT b)), some (.v (.int x)), some (.v (.int (most b p))), x6, x7]) μ else .ok (.ret (.bool false)) μ := fun _ => by
      simp only [e_sIf, e_test, e_bin, e_call, e_aCons, e_aNil, e_var, List.getElem?_cons_succ, List.getElem?_cons_zero, Res.bind_ok, x_t, hax, lift_some]
      rw [exn, hpx]
      simp only [Res.bind_ok, p_sub, lift_some, p_gt, a_b]
      by_cases c : most b p ≤ b.getD x.toNat 0 - priceOf p x.toNat
      · rw [if_pos c, decide_eq_false (by omega), if_neg Bool.false_ne_true]
        rfl
      · rw [if_neg c, decide_eq_true (by omega), if_pos rfl]
        rfl
    have first : sAsg 5 (xV (dCB pyMax (aCons (dShare IP) aNil))) [some (.v (rT r)), some (.v (iT a)), some (.v (iT p)), some (.v (iT b)), some (.v (.int x)), x5, x6, x7] μ = .ok (.next [some (.v (rT r)), some (.v (iT a)), some (.v (iT p)), some (.v (iT b)), some (.v (.int x)), some (.v (.int (most b p))), x6, x7]) μ := by
      simp only [e_asg, e_xV, e_cb, e_aCons, e_aNil, e_share, q2, Res.bind_ok, hm, lift_some, List.set_cons_succ, List.set_cons_zero]
      rfl
    show if (!decide (most b p ≤ b.getD x.toNat 0 - priceOf p x.toNat)) = true then sSeq (sAsg 5 (xV (dCB pyMax (aCons (dShare IP) aNil)))) _ [some (.v (rT r)), some (.v (iT a)), some (.v (iT p)), some (.v (iT b)), some (.v (.int x)), x5, x6, x7] μ = _ else ∃ sd2, sSeq (sAsg 5 (xV (dCB pyMax (aCons (dShare IP) aNil)))) _ [some (.v (rT r)), some (.v (iT a)), some (.v (iT p)), some (.v (iT b)), some (.v (.int x)), x5, x6, x7] μ = _ ∧ _
    rw [e_seq, first]
    simp only [Res.bind_ok, e_then_next]
    rw [fin true]
    by_cases c : most b p ≤ b.getD x.toNat 0 - priceOf p x.toNat
    · rw [if_neg (by rw [decide_eq_true c]; decide), if_pos c]
      exact ⟨_, rfl, _, _, _, _, _, rfl⟩
    · rw [if_pos (by rw [decide_eq_false c]; rfl), if_neg c]⟩) (sd := [some (.v (rT r)), some (.v (iT a)), some (.v (iT p)), none, none, none, none, none]) ⟨_, _, _, _, _, rfl⟩
  unfold partsB
  by_cases c : 0 < priceOf p (((2 ^ K : Nat) : Int) - 1 - a.sum).toNat
  · rw [e_seq, e_sIf, test, decide_eq_true c, decide_eq_false (show ¬ priceOf p (((2 ^ K : Nat) : Int) - 1 - a.sum).toNat ≤ 0 by omega)]
    rfl
  · rw [e_seq, e_sIf, test, decide_eq_false c, decide_eq_true (show priceOf p (((2 ^ K : Nat) : Int) - 1 - a.sum).toNat ≤ 0 by omega)]
    generalize B_parts = bb at lp
    have hz2 : zip2D (r.map iT) (a.map .int) = (r.zip a).map fun q => .tuple [iT q.1, .int q.2] := zip2_map _ _ _ _
    simp only [Res.bind_ok, if_neg Bool.false_ne_true, e_next, e_then_next, e_seq, e_sFor, e_iZ2, e_var, List.getElem?_cons_succ, List.getElem?_cons_zero, zip2Of, lift_some, hz2, Bool.true_and]
    rw [any_not] at lp
    simp only [Bool.not_not] at lp
    cases q : (r.zip a).all fun q => decide (most q.1 p ≤ q.1.getD q.2.toNat 0 - priceOf p q.2.toNat) with
    | true =>
      rw [q, if_neg (by decide)] at lp
      obtain ⟨sd', h1, _⟩ := lp
      rw [h1]
      rfl
    | false =>
      rw [q, if_pos (by rfl)] at lp
      rw [lp]
      rfl
def allP : Nat → List (List Int)
  | 0 => [[]]
  | k + 1 => (allP k).flatMap fun p => (List.range 10).map fun o : Nat => p ++ [(o : Int)]
theorem allP_len : ∀ k, (allP k).length = 10 ^ k
  | 0 => rfl
  | k + 1 => by
    unfold allP
    rw [flat_len 10 _ _ fun p _ => by rw [List.length_map, List.length_range], allP_len k, Nat.pow_succ]
theorem allP_mem : ∀ (k : Nat), ∀ p ∈ allP k, p.length = k
  | 0, p, h => by
    have : p = [] := by simpa [allP] using h
    rw [this]
    rfl
  | k + 1, p, h => by
    unfold allP at h
    obtain ⟨q, hq, h⟩ := List.mem_flatMap.mp h
    obtain ⟨o, _, rfl⟩ := List.mem_map.mp h
    rw [List.length_append, allP_mem k q hq]
    rfl
abbrev B_ext : DS := sExt 3 (xO (dLc (iRg1 (dC (.int 10))) (gN 5) dYes (dBin pyAdd (dVar 4) (dTup (aCons (dVar 5) aNil))) [5]))
theorem ext_one (s0 s1 s2 s5 s6 : Option Sl) (L : List D) (p : List Int) (hp : p.length ≤ 10) (hL : L.length + 10 ≤ 100000) (μ : Mu) :
    B_ext [s0, s1, s2, some (.own L), some (.v (iT p)), s5, s6] μ = .ok (.next [s0, s1, s2, some (.own (L ++ ((List.range 10).map fun o : Nat => p ++ [(o : Int)]).map iT)), some (.v (iT p)), s5, s6]) μ := by
  have z := lc_map (μ := μ) (tgt := gN 5) (fe := dBin pyAdd (dVar 4) (dTup (aCons (dVar 5) aNil))) (sdw := [s0, s1, s2, some (.own L), some (.v (iT p)), none, s6]) nD (fun o => iT (p ++ [(o : Int)])) (xs := List.range 10) fun o ho => ⟨_, rfl, by
    simp only [e_bin, e_var, e_tup, e_aCons, e_aNil, List.set_cons_succ, List.set_cons_zero, List.getElem?_cons_succ, List.getElem?_cons_zero, Res.bind_ok, List.length_cons, List.length_nil]
    rw [if_pos (by decide)]
    simp only [lift_some, Res.bind_ok]
    rw [pAddT (by rw [List.length_map]; simp only [List.length_cons, List.length_nil]; omega)]
    simp only [lift_some, iT, List.map_append, List.map_cons, List.map_nil]⟩
  have r10 : rgD 0 10 = (List.range 10).map nD := rg0n 10
  have r10' : rgOk 10 = some 10 := rfl
  have q : dLc (iRg1 (dC (.int 10))) (gN 5) dYes (dBin pyAdd (dVar 4) (dTup (aCons (dVar 5) aNil))) [5] [s0, s1, s2, some (.own L), some (.v (iT p)), s5, s6] μ = .ok ((List.range 10).map fun o : Nat => iT (p ++ [(o : Int)])) μ := by
    simp only [e_lc, e_iRg1, e_c, Res.bind_ok, a_i, Option.bind_some, r10', lift_some, r10]
    rw [if_pos (by decide)]
    show nx (lcLoop _ _ _ [s0, s1, s2, some (.own L), some (.v (iT p)), none, s6] _ μ) = _
    rw [z]
    rfl
  unfold B_ext sExt
  simp only [List.getElem?_cons_succ, List.getElem?_cons_zero, e_xO, q, Res.bind_ok]
  rw [if_pos (DL.sizeL (by rw [List.length_map, List.length_range]; exact hL))]
  simp only [List.set_cons_succ, List.set_cons_zero, List.map_map]
  rfl
theorem ext_loop (s0 s1 s2 s6 : Option Sl) (μ : Mu) : ∀ (A : List (List Int)) (L : List D) (s4 s5 : Option Sl), (∀ p ∈ A, p.length ≤ 10) → L.length + A.length * 10 ≤ 100000 →
    ∃ x4, forLoop (gN 4) B_ext (A.map iT) [s0, s1, s2, some (.own L), s4, s5, s6] μ = .ok (.next [s0, s1, s2, some (.own (L ++ (A.flatMap fun p => (List.range 10).map fun o : Nat => p ++ [(o : Int)]).map iT)), x4, s5, s6]) μ
  | [], L, s4, s5, _, _ => ⟨s4, by simp [forLoop]⟩
  | p :: A, L, s4, s5, hA, hl => by
    rw [List.length_cons] at hl
    obtain ⟨x4, ih⟩ := ext_loop s0 s1 s2 s6 μ A (L ++ ((List.range 10).map fun o : Nat => p ++ [(o : Int)]).map iT) (some (.v (iT p))) s5 (fun q hq => hA q (List.mem_cons_of_mem _ hq)) (by rw [List.length_append, List.length_map, List.length_map, List.length_range]; omega)
    refine ⟨x4, ?_⟩
    rw [List.map_cons]
    unfold forLoop
    show ((B_ext [s0, s1, s2, some (.own L), some (.v (iT p)), s5, s6] μ).bind (thenF _)) = _
    rw [ext_one s0 s1 s2 s5 s6 L p (hA p List.mem_cons_self) (by omega) μ]
    simp only [Res.bind_ok, e_then_next]
    rw [ih, List.flatMap_cons, List.map_append, List.append_assoc]
abbrev B_pl : DS := sSeq (sAsg 3 (xO (dLst aNil))) (sSeq (sFor (iAny (dVar 1)) (gN 4) B_ext) (sFreeze 3 (sAsg 1 (xV (dVar 3)))))
theorem pl_one (s0 s2 s3 s4 s5 s6 : Option Sl) {k : Nat} (hk : k ≤ 3) (μ : Mu) : ∃ x3 x4, B_pl [s0, some (.v (rL (allP k))), s2, s3, s4, s5, s6] μ = .ok (.next [s0, some (.v (rL (allP (k + 1)))), s2, x3, x4, s5, s6]) μ := by
  have hl := allP_len k
  have hp : 10 ^ k ≤ 10 ^ 3 := Nat.pow_le_pow_right (by decide) hk
  obtain ⟨x4, e1⟩ := ext_loop s0 (some (.v (rL (allP k)))) s2 s6 μ (allP k) [] s4 s5 (fun p hp => by rw [allP_mem k p hp]; omega) (by rw [hl]; simp; omega)
  refine ⟨some (.v (rL (allP (k + 1)))), x4, ?_⟩
  refine seq_next (sd' := [s0, some (.v (rL (allP k))), s2, some (.own []), s4, s5, s6]) (μ' := μ) rfl ?_
  refine seq_next (sd' := [s0, some (.v (rL (allP k))), s2, some (.own ((allP (k + 1)).map iT)), x4, s5, s6]) (μ' := μ) ?_ (freeze_next rfl rfl)
  rw [e_sFor]
  show forLoop (gN 4) B_ext ((allP k).map iT) [s0, some (.v (rL (allP k))), s2, some (.own []), s4, s5, s6] μ = _
  exact e1
theorem pl_loop (s0 s6 : Option Sl) (μ : Mu) : ∀ (m k : Nat) (s2 s3 s4 s5 : Option Sl), k + m ≤ 3 → ∃ x2 x3 x4, forLoop (gN 2) B_pl ((List.range' k m).map nD) [s0, some (.v (rL (allP k))), s2, s3, s4, s5, s6] μ = .ok (.next [s0, some (.v (rL (allP (k + m)))), x2, x3, x4, s5, s6]) μ
  | 0, k, s2, s3, s4, s5, _ => ⟨s2, s3, s4, rfl⟩
  | m + 1, k, s2, s3, s4, s5, h => by
    obtain ⟨y3, y4, e1⟩ := pl_one s0 (some (.v (nD k))) s3 s4 s5 s6 (k := k) (by omega) μ
    obtain ⟨x2, x3, x4, ih⟩ := pl_loop s0 s6 μ m (k + 1) (some (.v (nD k))) y3 y4 s5 (by omega)
    refine ⟨x2, x3, x4, ?_⟩
    rw [List.range'_succ, List.map_cons]
    unfold forLoop
    show ((B_pl [s0, some (.v (rL (allP k))), some (.v (nD k)), s3, s4, s5, s6] μ).bind (thenF _)) = _
    rw [e1]
    simp only [Res.bind_ok, e_then_next]
    rw [show k + (m + 1) = k + 1 + m by omega]
    exact ih
def pricesL (r : List (List Int)) (K : Nat) : List (List Int) := (allP K).filter (partsB r K (win r K))
theorem win_sum (r : List (List Int)) (K : Nat) : 0 ≤ (win r K).sum ∧ (win r K).sum ≤ ((2 ^ K : Nat) : Int) - 1 := rawA_sum (n := r.length) (G := everyN r) (fun g hg => List.mem_range.mp hg) K _ (W_at r K _).1
theorem m_parts_win (h : RK r K) {p : List Int} (hp : p.length = K) (μ : Mu) : F_parts [rT r, iT (win r K), iT p] μ = .ok (.bool (partsB r K (win r K) p)) μ := m_parts h bestP_ent (win_sum r K) hp μ
@[simp] theorem m_price_list (h : RK r K) (μ : Mu) : F_price_list [rT r] μ = .ok (rL (pricesL r K)) μ := by
  have hl := h.len
  have k3 := h.k3
  have hal := allP_len K
  have hpw : 10 ^ K ≤ 10 ^ 3 := Nat.pow_le_pow_right (by decide) k3
  refine fn_ret (show D_price_list [some (.v (rT r)), none, none, none, none, none, none] μ = _ from ?_)
  obtain ⟨x2, x3, x4, e1⟩ := pl_loop (some (.v (rT r))) none μ K 0 none none none none (by omega)
  rw [Nat.zero_add, ← List.range_eq_range'] at e1
  have e0 : D_price_list = sSeq (sAsg 1 (xV (dShare (dLst (aCons (dTup aNil) aNil))))) (sSeq (sFor (iRg1 (dCall F_count_things (aCons (dVar 0) aNil))) (gN 2) B_pl)
    (sSeq (sAsg 6 (xV (dBin pyIx (dCall F_best_for (aCons (dVar 0) (aCons (dCall F_everyone (aCons (dVar 0) aNil)) aNil))) (dC (.int 1)))))
    (sRet (dShare (dLc (iAny (dVar 1)) (gN 4) (dTest (dCall F_parts (aCons (dVar 0) (aCons (dVar 6) (aCons (dVar 4) aNil))))) (dVar 4) [4]))))) := rfl
  rw [e0]
  refine seq_next (sd' := [some (.v (rT r)), some (.v (rL (allP 0))), none, none, none, none, none]) (μ' := μ) (by
    simp only [e_asg, e_xV, e_share, e_lst, e_tup, e_aCons, e_aNil, Res.bind_ok, List.length_nil]
    rw [if_pos (by decide)]
    simp only [lift_some, Res.bind_ok, List.length_cons, List.length_nil]
    rw [if_pos (by decide)]
    rfl) ?_
  refine seq_next (μ' := μ) (by
    rw [e_sFor]
    simp only [e_iRg1, e_call, e_aCons, e_aNil, e_var, List.getElem?_cons_zero, Res.bind_ok, m_count_things h, a_i, Option.bind_some, rgOk_nat (show K ≤ 100000 by omega), lift_some, rg0n]
    exact e1) ?_
  have i1 : L2.atI [PyData.int (top r K), iT (win r K)] 1 = some (iT (win r K)) := rfl
  refine seq_next (asg_v (d := iT (win r K)) (μ' := μ) (by
    simp only [e_bin, e_call, e_aCons, e_aNil, e_var, List.getElem?_cons_zero, Res.bind_ok, m_everyone r (show r.length ≤ 100000 by omega), m_best_for h (grp_all h), e_c, x_t, i1, lift_some])) (ret_v ?_)
  simp only [List.set_cons_succ, List.set_cons_zero]
  have z := lc_enc (μ := μ) (tgt := gN 4) (ft := dTest (dCall F_parts (aCons (dVar 0) (aCons (dVar 6) (aCons (dVar 4) aNil))))) (fe := dVar 4) (sdw := [some (.v (rT r)), some (.v (rL (allP K))), x2, x3, none, none, some (.v (iT (win r K)))]) iT (partsB r K (win r K)) iT (xs := allP K) fun p hp => ⟨_, rfl, by
    simp only [e_test, e_call, e_aCons, e_aNil, e_var, List.set_cons_succ, List.set_cons_zero, List.getElem?_cons_succ, List.getElem?_cons_zero, Res.bind_ok, m_parts_win h (allP_mem K p hp), lift_some, a_b], fun _ => by simp only [e_var, List.set_cons_succ, List.set_cons_zero, List.getElem?_cons_succ, List.getElem?_cons_zero]⟩
  simp only [e_share, e_lc, e_iAny, e_var, List.getElem?_cons_succ, List.getElem?_cons_zero, Res.bind_ok, i_l, lift_some]
  rw [if_pos (by rw [List.length_map]; omega), show wipeD [some (.v (rT r)), some (.v (rL (allP K))), x2, x3, x4, none, some (.v (iT (win r K)))] [4] = [some (.v (rT r)), some (.v (rL (allP K))), x2, x3, none, none, some (.v (iT (win r K)))] from rfl, z]
  rfl
@[simp] theorem m_all_prices (h : RK r K) (μ : Mu) : F_all_prices [rT r] μ = .ok (rL (pricesL r K)) μ := by
  refine fn_ret (show D_all_prices [some (.v (rT r))] μ = _ from ?_)
  simp only [D_all_prices, e_seq, e_drop, e_call, e_aCons, e_aNil, e_var, List.getElem?_cons_zero, Res.bind_ok, m_check_room h.room, e_then_next, e_ret, m_price_list h]
end
end OL

set_option maxHeartbeats 4000000
/-! OLMir10: some_bid by its kinds. -/
namespace OL
open PySem DL
abbrev I58 : DA := dLc (iAny (dCall F__law_inside (aCons (dVar 7) aNil))) (gN 8) dYes (dBin pyIx (dVar 5) (dVar 8)) [8]
abbrev A1 : DS := sSeq (sAsg 5 (xV (dShare (dLc (iRg1 (dVar 2)) (gN 6) dYes (dCall F__law_draw (aCons (dVar 0) (aCons (dVar 1) (aCons (dC (.int 4)) aNil)))) [6]))))
    (sRet (dCB pyTuple (aCons (dShare (dLc (iRg1 (dVar 4)) (gN 7) dYes (dCB pySum (aCons (dShare I58) aNil)) [7])) aNil)))
abbrev A2 : DS := sSeq (sAsg 5 (xV (dShare (dLc (iRg1 (dVar 2)) (gN 6) dYes (dCall F__law_draw (aCons (dVar 0) (aCons (dVar 1) (aCons (dC (.int 10)) aNil)))) [6]))))
    (sRet (dCB pyTuple (aCons (dShare (dLc (iRg1 (dVar 4)) (gN 7) dYes (dCB pyMax (aCons (dBin pyAdd (dShare (dLst (aCons (dC (.int 0)) aNil))) (dShare I58)) aNil)) [7])) aNil)))
theorem i58 (ns : List Int) {k s : Nat} (hk : k ≤ 3) (hs : s < 2 ^ k) {ws : List Int} (hw : ws.length = k) (s2 s3 s4 s6 s8 s9 s10 s11 s12 : Option Sl) (μ : Mu) :
    I58 (slW ns s2 s3 s4 (some (.v (iL ws))) s6 (some (.v (nD s))) s8 s9 s10 s11 s12) μ = .ok ((tI s).map fun t => .int (ws.getD t 0)) μ := by
  have z := lc_map (μ := μ) (tgt := gN 8) (fe := dBin pyIx (dVar 5) (dVar 8)) (sdw := slW ns s2 s3 s4 (some (.v (iL ws))) s6 (some (.v (nD s))) none s9 s10 s11 s12) nD (fun t => PyData.int (ws.getD t 0)) (xs := tI s) fun t ht => ⟨_, rfl, by
    have ht := tI_lt hk hs t ht
    simp only [slW, e_bin, e_var, List.set_cons_succ, List.set_cons_zero, List.getElem?_cons_succ, List.getElem?_cons_zero, Res.bind_ok, x_l, at_map, getD_of (show t < ws.length by omega), Option.map_some, lift_some]⟩
  have hl : (tI s).length ≤ 3 := List.length_filter_le _ _
  simp only [I58, slW, e_lc, e_iAny, e_call, e_aCons, e_aNil, e_var, List.getElem?_cons_succ, List.getElem?_cons_zero, Res.bind_ok, m_inside, i_l, lift_some]
  rw [if_pos (by rw [List.length_map]; omega)]
  show nx (lcLoop _ _ _ (slW ns s2 s3 s4 (some (.v (iL ws))) s6 (some (.v (nD s))) none s9 s10 s11 s12) _ μ) = _
  rw [z]
  rfl
theorem outer7 (ns : List Int) {n : Nat} (hn : n ≤ 8) (f : Nat → Int) (fe : DE) (s2 s3 s5 s6 s7 s8 s9 s10 s11 s12 : Option Sl) (μ : Mu) (h : ∀ s, s < n → fe (slW ns s2 s3 (some (.v (nD n))) s5 s6 (some (.v (nD s))) s8 s9 s10 s11 s12) μ = .ok (.int (f s)) μ) :
    sRet (dCB pyTuple (aCons (dShare (dLc (iRg1 (dVar 4)) (gN 7) dYes fe [7])) aNil)) (slW ns s2 s3 (some (.v (nD n))) s5 s6 s7 s8 s9 s10 s11 s12) μ = .ok (.ret (iT ((List.range n).map f))) μ := by
  have z := lc_map (μ := μ) (tgt := gN 7) (fe := fe) (sdw := slW ns s2 s3 (some (.v (nD n))) s5 s6 none s8 s9 s10 s11 s12) nD (fun s => PyData.int (f s)) (xs := List.range n) fun s hs => ⟨_, rfl, h s (List.mem_range.mp hs)⟩
  simp only [e_ret, e_cb, e_aCons, e_aNil, e_share, e_lc, e_iRg1, slW, e_var, List.getElem?_cons_succ, List.getElem?_cons_zero, Res.bind_ok, a_i, Option.bind_some, rgOk_nat (show n ≤ 100000 by omega), lift_some, rg0n]
  rw [if_pos (by rw [List.length_map, List.length_range]; omega)]
  rw [show wipeD [some (.v (scrI ns)), some (.v (tok 0)), s2, s3, some (.v (nD n)), s5, s6, s7, s8, s9, s10, s11, s12] [7] = slW ns s2 s3 (some (.v (nD n))) s5 s6 none s8 s9 s10 s11 s12 from rfl, z]
  simp only [nx_ok, Res.bind_ok, pyTuple, lift_some, iT, List.map_map]
  rfl
theorem max_map0 {α : Type} (f : α → Int) (l : List α) (μ : Mu) : pyMax [.list (.int 0 :: (l.map fun y => PyData.int (f y)))] μ = some (.int (maxI (0 :: l.map f))) := by
  have e : PyData.int 0 :: (l.map fun y => PyData.int (f y)) = (0 :: l.map f).map PyData.int := by simp
  rw [e]
  show (asInts ((0 :: l.map f).map PyData.int)).bind (fun ns => if ns ≠ [] then some (PyData.int (maxI ns)) else none) = _
  rw [asInts_of, Option.bind_some, if_pos (by simp)]
section
variable (ns : List Int) (hn : ns.length ≤ 63)
include hn
theorem a1_ok {k : Nat} (h1 : 1 ≤ k) (h3 : k ≤ 3) (s3 s5 s6 s7 s8 s9 s10 s11 s12 : Option Sl) {μ : Mu} {m : Nat} (hT : Town R μ m) (hl : m ≤ 9000) :
    ∃ (b : List Int) (μ' : Mu), A1 (slW ns (some (.v (nD k))) s3 (some (.v (nD (2 ^ k)))) s5 s6 s7 s8 s9 s10 s11 s12) μ = .ok (.ret (iT b)) μ' ∧ IsBid (2 ^ k) b ∧ Town R μ' (m + k) := by
  obtain ⟨ws, μ', hd, hlen, hw, hT'⟩ := worths_lc ns hn (show (0 : Int) < 4 by decide) h3 s3 (some (.v (nD (2 ^ k)))) s5 s6 s7 s8 s9 s10 s11 s12 hT hl
  refine ⟨_, μ', seq_next (asg_v hd) (outer7 ns (pow_le8 h3) (fun s => ((tI s).map fun t => ws.getD t 0).sum) _ _ _ _ _ _ _ _ _ _ _ μ' fun s hs => ?_), sum_isBid h1 h3 hlen fun x hx => by have := hw x hx; omega, hT'⟩
  have z := i58 ns h3 hs hlen (some (.v (nD k))) s3 (some (.v (nD (2 ^ k)))) s6 s8 s9 s10 s11 s12 μ'
  simp only [e_cb, e_aCons, e_aNil, e_share]
  rw [z]
  simp only [Res.bind_ok, sum_map', lift_some]
theorem a2_ok {k : Nat} (h1 : 1 ≤ k) (h3 : k ≤ 3) (s3 s5 s6 s7 s8 s9 s10 s11 s12 : Option Sl) {μ : Mu} {m : Nat} (hT : Town R μ m) (hl : m ≤ 9000) :
    ∃ (b : List Int) (μ' : Mu), A2 (slW ns (some (.v (nD k))) s3 (some (.v (nD (2 ^ k)))) s5 s6 s7 s8 s9 s10 s11 s12) μ = .ok (.ret (iT b)) μ' ∧ IsBid (2 ^ k) b ∧ Town R μ' (m + k) := by
  obtain ⟨ws, μ', hd, hlen, hw, hT'⟩ := worths_lc ns hn (show (0 : Int) < 10 by decide) h3 s3 (some (.v (nD (2 ^ k)))) s5 s6 s7 s8 s9 s10 s11 s12 hT hl
  refine ⟨_, μ', seq_next (asg_v hd) (outer7 ns (pow_le8 h3) (fun s => maxI (0 :: (tI s).map fun t => ws.getD t 0)) _ _ _ _ _ _ _ _ _ _ _ μ' fun s hs => ?_), max_isBid h1 h3 hlen fun x hx => by have := hw x hx; omega, hT'⟩
  have z := i58 ns h3 hs hlen (some (.v (nD k))) s3 (some (.v (nD (2 ^ k)))) s6 s8 s9 s10 s11 s12 μ'
  have hl2 : (tI s).length ≤ 3 := List.length_filter_le _ _
  have l0 (sd : Slots) : dShare (dLst (aCons (dC (.int 0)) aNil)) sd μ' = .ok (.list [.int 0]) μ' := by
    simp only [e_share, e_lst, e_aCons, e_aNil, e_c, Res.bind_ok, List.length_cons, List.length_nil]
    rw [if_pos (by decide)]
    rfl
  have zs : dShare I58 (slW ns (some (.v (nD k))) s3 (some (.v (nD (2 ^ k)))) (some (.v (iL ws))) s6 (some (.v (nD s))) s8 s9 s10 s11 s12) μ' = .ok (.list ((tI s).map fun t => .int (ws.getD t 0))) μ' := by
    rw [e_share, z]
    rfl
  generalize I58 = ii at zs
  simp only [e_cb, e_aCons, e_aNil, e_bin, l0, Res.bind_ok]
  have zs : dShare ii [some (.v (scrI ns)), some (.v (tok 0)), some (.v (nD k)), s3, some (.v (nD (2 ^ k))), some (.v (iL ws)), s6, some (.v (nD s)), s8, s9, s10, s11, s12] μ' = _ := zs
  show ((((dShare ii [some (.v (scrI ns)), some (.v (tok 0)), some (.v (nD k)), s3, some (.v (nD (2 ^ k))), some (.v (iL ws)), s6, some (.v (nD s)), s8, s9, s10, s11, s12] μ').bind _).bind _).bind _) = _
  rw [zs]
  simp only [Res.bind_ok]
  rw [pAddL (by rw [List.length_map]; simp only [List.length_cons, List.length_nil]; omega)]
  simp only [lift_some, Res.bind_ok, List.singleton_append, max_map0]
end
/-! ### a package bid -/
abbrev I98 : DA := dLc (iAny (dCall F__law_inside (aCons (dVar 9) aNil))) (gN 8) (dTest (dBin pyNotIn (dVar 8) (dCall F__law_inside (aCons (dVar 7) aNil)))) (dC (.int 1)) [8]
abbrev B3 : DS := sApp 11 (dIf (dTest (dBin pyEq (dShare I98) (dShare (dLst aNil)))) (dVar 10) (dC (.int 0)))
abbrev A3 : DS := sSeq (sPar 9 10 (xV (dBin pyAdd (dC (.int 1)) (dCall F__law_draw (aCons (dVar 0) (aCons (dVar 1) (aCons (dBin pySub (dVar 4) (dC (.int 1))) aNil)))))) (xV (dCall F__law_draw (aCons (dVar 0) (aCons (dVar 1) (aCons (dC (.int 10)) aNil))))))
    (sSeq (sAsg 11 (xO (dLst aNil))) (sSeq (sFor (iRg1 (dVar 4)) (gN 7) B3) (sFreeze 11 (sRet (dCB pyTuple (aCons (dVar 11) aNil))))))
theorem i98 (ns : List Int) (g s : Nat) (s2 s3 s4 s5 s6 s8 s10 s11 s12 : Option Sl) (μ : Mu) :
    I98 (slW ns s2 s3 s4 s5 s6 (some (.v (nD s))) s8 (some (.v (nD g))) s10 s11 s12) μ = .ok (((tI g).filter fun t => !decide (t ∈ tI s)).map fun _ => .int 1) μ := by
  have z := lc_enc (μ := μ) (tgt := gN 8) (ft := dTest (dBin pyNotIn (dVar 8) (dCall F__law_inside (aCons (dVar 7) aNil)))) (fe := dC (.int 1)) (sdw := slW ns s2 s3 s4 s5 s6 (some (.v (nD s))) none (some (.v (nD g))) s10 s11 s12) nD (fun t => !decide (t ∈ tI s)) (fun _ => PyData.int 1) (xs := tI g) fun t ht => ⟨_, rfl, by
    simp only [slW, e_test, e_bin, e_var, e_call, e_aCons, e_aNil, List.set_cons_succ, List.set_cons_zero, List.getElem?_cons_succ, List.getElem?_cons_zero, Res.bind_ok, m_inside, p_notIn, lift_some, a_b], fun _ => rfl⟩
  have hl : (tI g).length ≤ 3 := List.length_filter_le _ _
  simp only [I98, slW, e_lc, e_iAny, e_call, e_aCons, e_aNil, e_var, List.getElem?_cons_succ, List.getElem?_cons_zero, Res.bind_ok, m_inside, i_l, lift_some]
  rw [if_pos (by rw [List.length_map]; omega)]
  show nx (lcLoop _ _ _ (slW ns s2 s3 s4 s5 s6 (some (.v (nD s))) none (some (.v (nD g))) s10 s11 s12) _ μ) = _
  rw [z]
  rfl
theorem b3_one (ns : List Int) (g s : Nat) (w : Int) (s2 s3 s4 s5 s6 s8 s12 : Option Sl) (L : List D) (hL : L.length < 1000) (μ : Mu) :
    B3 (slW ns s2 s3 s4 s5 s6 (some (.v (nD s))) s8 (some (.v (nD g))) (some (.v (.int w))) (some (.own L)) s12) μ = .ok (.next (slW ns s2 s3 s4 s5 s6 (some (.v (nD s))) s8 (some (.v (nD g))) (some (.v (.int w))) (some (.own (L ++ [.int (if (tI g).filter (fun t => !decide (t ∈ tI s)) = [] then w else 0)]))) s12)) μ := by
  have z := i98 ns g s s2 s3 s4 s5 s6 s8 (some (.v (.int w))) (some (.own L)) s12 μ
  have zs : dShare I98 (slW ns s2 s3 s4 s5 s6 (some (.v (nD s))) s8 (some (.v (nD g))) (some (.v (.int w))) (some (.own L)) s12) μ = .ok (iL (((tI g).filter fun t => !decide (t ∈ tI s)).map fun _ => 1)) μ := by
    rw [e_share, z, Res.bind_ok]
    show Res.ok (PyData.list _) μ = Res.ok (PyData.list _) μ
    rw [List.map_map]
    rfl
  have e1 : pyEq (iL (((tI g).filter fun t => !decide (t ∈ tI s)).map fun _ => 1)) (.list []) = some (.bool (decide ((tI g).filter (fun t => !decide (t ∈ tI s)) = []))) := by
    have q := pe_iL (((tI g).filter fun t => !decide (t ∈ tI s)).map fun _ => 1) []
    rw [decide_eq_decide.mpr (show (((tI g).filter fun t => !decide (t ∈ tI s)).map fun _ => (1 : Int)) = [] ↔ (tI g).filter (fun t => !decide (t ∈ tI s)) = [] by simp)] at q
    exact q
  show (sApp 11 (dIf (dTest (dBin pyEq (dShare I98) (dShare (dLst aNil)))) (dVar 10) (dC (.int 0)))) [some (.v (scrI ns)), some (.v (tok 0)), s2, s3, s4, s5, s6, some (.v (nD s)), s8, some (.v (nD g)), some (.v (.int w)), some (.own L), s12] μ = _
  generalize I98 = ii at zs ⊢
  have zs : dShare ii [some (.v (scrI ns)), some (.v (tok 0)), s2, s3, s4, s5, s6, some (.v (nD s)), s8, some (.v (nD g)), some (.v (.int w)), some (.own L), s12] μ = _ := zs
  simp only [e_app, List.getElem?_cons_succ, List.getElem?_cons_zero, e_if, e_test, e_bin, zs, lst_nil, Res.bind_ok, e1, lift_some, a_b]
  by_cases c : (tI g).filter (fun t => !decide (t ∈ tI s)) = []
  · rw [decide_eq_true c, if_pos rfl, if_pos c]
    simp only [e_var, List.getElem?_cons_succ, List.getElem?_cons_zero, Res.bind_ok]
    rw [if_pos (DL.sizeLt (by omega))]
    rfl
  · rw [decide_eq_false c, if_neg Bool.false_ne_true, if_neg c]
    simp only [e_c, Res.bind_ok]
    rw [if_pos (DL.sizeLt (by omega))]
    rfl
section
variable (ns : List Int) (hn : ns.length ≤ 63)
include hn
theorem a3_ok {k : Nat} (h1 : 1 ≤ k) (h3 : k ≤ 3) (s3 s5 s6 s7 s8 s9 s10 s11 s12 : Option Sl) {μ : Mu} {m : Nat} (hT : Town R μ m) (hl : m ≤ 9000) :
    ∃ (b : List Int) (μ' : Mu), A3 (slW ns (some (.v (nD k))) s3 (some (.v (nD (2 ^ k)))) s5 s6 s7 s8 s9 s10 s11 s12) μ = .ok (.ret (iT b)) μ' ∧ IsBid (2 ^ k) b ∧ Town R μ' (m + 2) := by
  have h8 := pow_le8 h3
  have h2 : 2 ≤ 2 ^ k := by rcases (show k = 1 ∨ k = 2 ∨ k = 3 by omega) with rfl | rfl | rfl <;> decide
  obtain ⟨v, μ1, v1, v2, hv, hT1⟩ := m_draw ns hn (show (0 : Int) < ((2 ^ k : Nat) : Int) - 1 by omega) hT (by omega)
  obtain ⟨w, μ2, w1, w2, hw, hT2⟩ := m_draw ns hn (show (0 : Int) < 10 by decide) hT1 (by omega)
  obtain ⟨sd', hf, x7, x8, rfl⟩ := for_push (μ := μ2) (tgt := gN 7) (fb := B3) nD (fun L sd => ∃ x7 x8, sd = slW ns (some (.v (nD k))) s3 (some (.v (nD (2 ^ k)))) s5 s6 x7 x8 (some (.v (nD (1 + v).toNat))) (some (.v (.int w))) (some (.own L)) s12) (fun s => .int (if (tI (1 + v).toNat).filter (fun t => !decide (t ∈ tI s)) = [] then w else 0)) (xs := List.range (2 ^ k)) (fun s hs L sd ⟨x7, x8, e⟩ hL => by
    subst e
    exact ⟨_, _, rfl, b3_one ns _ s w _ _ _ _ _ _ _ L hL μ2, _, _, rfl⟩) (L := []) (sd := slW ns (some (.v (nD k))) s3 (some (.v (nD (2 ^ k)))) s5 s6 s7 s8 (some (.v (nD (1 + v).toNat))) (some (.v (.int w))) (some (.own [])) s12) ⟨_, _, rfl⟩ (by rw [List.length_range]; simp; omega)
  refine ⟨_, μ2, ?_, pack_isBid h1 h3 (goal := (1 + v).toNat) ⟨by omega, by omega⟩ (w := w) ⟨w1, by omega⟩, hT2⟩
  have hg : PyData.int (1 + v) = nD (1 + v).toNat := by show _ = PyData.int _; congr 1; omega
  refine seq_next (sd' := slW ns (some (.v (nD k))) s3 (some (.v (nD (2 ^ k)))) s5 s6 s7 s8 (some (.v (nD (1 + v).toNat))) (some (.v (.int w))) s11 s12) (μ' := μ2) (by
    simp only [e_par, e_xV, slW, e_bin, e_c, e_call, e_aCons, e_aNil, e_var, List.getElem?_cons_succ, List.getElem?_cons_zero, Res.bind_ok, p_sub, lift_some, hv, hw, p_add, List.set_cons_succ, List.set_cons_zero, hg]) ?_
  refine seq_next (sd' := slW ns (some (.v (nD k))) s3 (some (.v (nD (2 ^ k)))) s5 s6 s7 s8 (some (.v (nD (1 + v).toNat))) (some (.v (.int w))) (some (.own [])) s12) (μ' := μ2) rfl ?_
  refine seq_next (μ' := μ2) (by
    simp only [e_sFor, e_iRg1, slW, e_var, List.getElem?_cons_succ, List.getElem?_cons_zero, Res.bind_ok, a_i, Option.bind_some, rgOk_nat (show 2 ^ k ≤ 100000 by omega), lift_some, rg0n]
    exact hf) (freeze_next rfl ?_)
  refine ret_v ?_
  simp only [slW, List.nil_append, List.set_cons_succ, List.set_cons_zero, e_cb, e_aCons, e_aNil, e_var, List.getElem?_cons_succ, List.getElem?_cons_zero, Res.bind_ok, pyTuple, lift_some, iT, List.map_map]
  rfl
end
end OL

set_option maxHeartbeats 4000000
/-! OLMir11: some_bid of any kind; some_room. -/
namespace OL
open PySem DL
structure Part (s : Nat) (b : List Int) : Prop where
  len : b.length = s
  rng : ∀ x ∈ b, 0 ≤ x ∧ x ≤ 9
  zero : b.getD 0 0 = 0
  mono : ∀ u, u < s → ∀ t ∈ tI u, b.getD (u - 2 ^ t) 0 ≤ b.getD u 0
theorem tI_sub {s t : Nat} (hs : s < 8) (ht : t ∈ tI s) : 2 ^ t ≤ s ∧ t < 3 := by
  have z : ∀ s ∈ List.range 8, ∀ t ∈ tI s, 2 ^ t ≤ s ∧ t < 3 := by decide +kernel
  exact z s (List.mem_range.mpr hs) t ht
theorem tI_ne {s : Nat} (h1 : 1 ≤ s) (hs : s < 8) : tI s ≠ [] := by
  have z : ∀ s ∈ List.range 8, 1 ≤ s → tI s ≠ [] := by decide +kernel
  exact z s (List.mem_range.mpr hs) h1
def lowOf (b : List Int) (s : Nat) : Int := maxI ((tI s).map fun t => b.getD (s - 2 ^ t) 0)
theorem getD_left {b : List Int} {k : Nat} {v : Int} (h : k < b.length) : (b ++ [v]).getD k 0 = b.getD k 0 := by
  rw [List.getD_eq_getElem?_getD, List.getElem?_append_left h, List.getD_eq_getElem?_getD]
theorem part_step {s : Nat} {b : List Int} (h : Part s b) (h1 : 1 ≤ s) (hs : s < 8) {d : Int} (hd : 0 ≤ d) : Part (s + 1) (b ++ [min 9 (lowOf b s + d)]) := by
  have hl : ∀ t ∈ tI s, b.getD (s - 2 ^ t) 0 ≤ lowOf b s := fun t ht => maxI_ge (List.mem_map.mpr ⟨t, ht, rfl⟩)
  have hm : ∀ t ∈ tI s, 0 ≤ b.getD (s - 2 ^ t) 0 ∧ b.getD (s - 2 ^ t) 0 ≤ 9 := fun t ht => by
    have hp : 0 < 2 ^ t := Nat.two_pow_pos t
    have := (tI_sub hs ht).1
    exact h.rng _ (getD_mem (by rw [h.len]; omega))
  have lo : 0 ≤ lowOf b s := by
    obtain ⟨t, ht⟩ := List.exists_mem_of_ne_nil _ (tI_ne h1 hs)
    have := hl t ht
    have := hm t ht
    omega
  have hi : lowOf b s ≤ 9 := maxI_le (by simp [tI_ne h1 hs]) fun x hx => by
    obtain ⟨t, ht, rfl⟩ := List.mem_map.mp hx
    exact (hm t ht).2
  refine ⟨by simp [h.len], fun x hx => ?_, by rw [getD_left (by rw [h.len]; omega)]; exact h.zero, fun u hu t ht => ?_⟩
  · rcases List.mem_append.mp hx with hx | hx
    · exact h.rng x hx
    · have : x = min 9 (lowOf b s + d) := by simpa using hx
      omega
  · by_cases c : u < s
    · rw [getD_left (by rw [h.len]; exact Nat.lt_of_le_of_lt (Nat.sub_le _ _) c), getD_left (by rw [h.len]; exact c)]
      exact h.mono u c t ht
    · have e : u = s := by omega
      subst e
      have hp : 0 < 2 ^ t := Nat.two_pow_pos t
      have := (tI_sub hs ht).1
      rw [getD_left (by rw [h.len]; omega)]
      have e2 : (b ++ [min 9 (lowOf b u + d)]).getD u 0 = min 9 (lowOf b u + d) := by
        rw [List.getD_eq_getElem?_getD, List.getElem?_append_right (by rw [h.len]; exact Nat.le_refl _), h.len]
        simp
      rw [e2]
      have := hl t ht
      have := hm t ht
      omega
theorem part_bid {n : Nat} {b : List Int} (h : Part n b) : IsBid n b := ⟨h.len, h.rng, h.zero, h.mono⟩
abbrev IL : DA := dLc (iAny (dCall F__law_inside (aCons (dVar 7) aNil))) (gN 8) dYes (dIxV 11 (dBin pySub (dVar 7) (dBin pyIx (dShare (dLst (aCons (dC (.int 1)) (aCons (dC (.int 2)) (aCons (dC (.int 4)) aNil))))) (dVar 8)))) [8]
abbrev DR : DE := dBin pyIx (dShare (dLst (aCons (dC (.int 0)) (aCons (dC (.int 0)) (aCons (dC (.int 1)) (aCons (dC (.int 2)) (aCons (dC (.int 5)) aNil))))))) (dCall F__law_draw (aCons (dVar 0) (aCons (dVar 1) (aCons (dC (.int 5)) aNil))))
abbrev B0 : DS := sSeq (sAsg 12 (xV (dCB pyMax (aCons (dShare IL) aNil)))) (sApp 11 (dCB pyMin (aCons (dC (.int 9)) (aCons (dBin pyAdd (dVar 12) DR) aNil))))
abbrev A0 : DS := sSeq (sAsg 11 (xO (dLst (aCons (dC (.int 0)) aNil)))) (sSeq (sFor (iRg2 (dC (.int 1)) (dVar 4)) (gN 7) B0) (sFreeze 11 (sRet (dCB pyTuple (aCons (dVar 11) aNil)))))
theorem il_ok (ns : List Int) {s : Nat} (hs : s < 8) {b : List Int} (hb : b.length = s) (s2 s3 s4 s5 s6 s8 s9 s10 s12 : Option Sl) (μ : Mu) :
    IL (slW ns s2 s3 s4 s5 s6 (some (.v (nD s))) s8 s9 s10 (some (.own (b.map .int))) s12) μ = .ok ((tI s).map fun t => .int (b.getD (s - 2 ^ t) 0)) μ := by
  have z := lc_map (μ := μ) (tgt := gN 8) (fe := dIxV 11 (dBin pySub (dVar 7) (dBin pyIx (dShare (dLst (aCons (dC (.int 1)) (aCons (dC (.int 2)) (aCons (dC (.int 4)) aNil))))) (dVar 8)))) (sdw := slW ns s2 s3 s4 s5 s6 (some (.v (nD s))) none s9 s10 (some (.own (b.map .int))) s12) nD (fun t => PyData.int (b.getD (s - 2 ^ t) 0)) (xs := tI s) fun t ht => ⟨_, rfl, by
    obtain ⟨h2, h3⟩ := tI_sub hs ht
    have e1 : L2.atI [PyData.int 1, .int 2, .int 4] (t : Int) = some (nD (2 ^ t)) := by
      rcases (show t = 0 ∨ t = 1 ∨ t = 2 by omega) with rfl | rfl | rfl <;> rfl
    have e2 : (s : Int) - ((2 ^ t : Nat) : Int) = ((s - 2 ^ t : Nat) : Int) := by omega
    have hp : 0 < 2 ^ t := Nat.two_pow_pos t
    have inner : dBin pySub (dVar 7) (dBin pyIx (dShare (dLst (aCons (dC (.int 1)) (aCons (dC (.int 2)) (aCons (dC (.int 4)) aNil))))) (dVar 8)) (slW ns s2 s3 s4 s5 s6 (some (.v (nD s))) (some (.v (nD t))) s9 s10 (some (.own (b.map .int))) s12) μ = .ok (nD (s - 2 ^ t)) μ := by
      simp only [slW, e_bin, lst3, e_var, List.getElem?_cons_succ, List.getElem?_cons_zero, Res.bind_ok, x_l, e1, lift_some, p_sub, e2]
    show (dIxV 11 _ (slW ns s2 s3 s4 s5 s6 (some (.v (nD s))) (some (.v (nD t))) s9 s10 (some (.own (b.map .int))) s12) μ) = _
    unfold dIxV
    rw [inner]
    show (lift (L2.atI (b.map PyData.int) ((s - 2 ^ t : Nat) : Int)) μ : Res D) = _
    rw [at_map, getD_of (show s - 2 ^ t < b.length by omega)]
    rfl⟩
  have hl : (tI s).length ≤ 3 := List.length_filter_le _ _
  simp only [IL, slW, e_lc, e_iAny, e_call, e_aCons, e_aNil, e_var, List.getElem?_cons_succ, List.getElem?_cons_zero, Res.bind_ok, m_inside, i_l, lift_some]
  rw [if_pos (by rw [List.length_map]; omega)]
  show nx (lcLoop _ _ _ (slW ns s2 s3 s4 s5 s6 (some (.v (nD s))) none s9 s10 (some (.own (b.map .int))) s12) _ μ) = _
  rw [z]
  rfl
theorem max_mapN {α : Type} (f : α → Int) {l : List α} (h : l ≠ []) (μ : Mu) : pyMax [.list (l.map fun y => PyData.int (f y))] μ = some (.int (maxI (l.map f))) := by
  have e : (l.map fun y => PyData.int (f y)) = (l.map f).map PyData.int := by simp
  rw [e]
  show (asInts ((l.map f).map PyData.int)).bind (fun ns => if ns ≠ [] then some (PyData.int (maxI ns)) else none) = _
  rw [asInts_of, Option.bind_some, if_pos (by simpa using h)]
section
variable (ns : List Int) (hn : ns.length ≤ 63)
include hn
theorem b0_one {s : Nat} (h1 : 1 ≤ s) (hs : s < 8) {b : List Int} (hb : Part s b) (s2 s3 s4 s5 s6 s8 s9 s10 s12 : Option Sl) {μ : Mu} {m : Nat} (hT : Town R μ m) (hl : m ≤ 9900) :
    ∃ v μ' x12, B0 (slW ns s2 s3 s4 s5 s6 (some (.v (nD s))) s8 s9 s10 (some (.own (b.map .int))) s12) μ = .ok (.next (slW ns s2 s3 s4 s5 s6 (some (.v (nD s))) s8 s9 s10 (some (.own ((b ++ [v]).map .int))) x12)) μ' ∧ Part (s + 1) (b ++ [v]) ∧ Town R μ' (m + 1) := by
  obtain ⟨v, μ1, v1, v2, hv, hT1⟩ := m_draw ns hn (show (0 : Int) < 5 by decide) hT (by omega)
  have hd : ∃ d : Int, 0 ≤ d ∧ L2.atI [PyData.int 0, .int 0, .int 1, .int 2, .int 5] v = some (.int d) := by
    rcases (show v = 0 ∨ v = 1 ∨ v = 2 ∨ v = 3 ∨ v = 4 by omega) with rfl | rfl | rfl | rfl | rfl
    · exact ⟨0, by decide, rfl⟩
    · exact ⟨0, by decide, rfl⟩
    · exact ⟨1, by decide, rfl⟩
    · exact ⟨2, by decide, rfl⟩
    · exact ⟨5, by decide, rfl⟩
  obtain ⟨d, d0, hd⟩ := hd
  refine ⟨min 9 (lowOf b s + d), μ1, some (.v (.int (lowOf b s))), ?_, part_step hb h1 hs d0, hT1⟩
  have z := il_ok ns hs hb.len s2 s3 s4 s5 s6 s8 s9 s10 s12 μ
  have hm := max_mapN (fun t => b.getD (s - 2 ^ t) 0) (tI_ne h1 hs) μ
  refine seq_next (asg_v (d := .int (lowOf b s)) (μ' := μ) (by
    generalize IL = il at z
    simp only [e_cb, e_aCons, e_aNil, e_share, z, Res.bind_ok, hm, lift_some]
    rfl)) ?_
  have l5 (sd : Slots) : dShare (dLst (aCons (dC (.int 0)) (aCons (dC (.int 0)) (aCons (dC (.int 1)) (aCons (dC (.int 2)) (aCons (dC (.int 5)) aNil)))))) sd μ = .ok (.list [.int 0, .int 0, .int 1, .int 2, .int 5]) μ := by
    simp only [e_share, e_lst, e_aCons, e_aNil, e_c, Res.bind_ok, List.length_cons, List.length_nil]
    rw [if_pos (by decide)]
    rfl
  have hmin : pyMin [.int 9, .int (lowOf b s + d)] μ1 = some (.int (min 9 (lowOf b s + d))) := rfl
  simp only [slW, List.set_cons_succ, List.set_cons_zero, e_app, List.getElem?_cons_succ, List.getElem?_cons_zero, e_cb, e_aCons, e_aNil, e_c, e_bin, e_var, l5, e_call, hv, Res.bind_ok, x_l, hd, lift_some, p_add, hmin]
  rw [if_pos (DL.sizeLt (by rw [List.length_map, hb.len]; omega))]
  simp only [List.map_append, List.map_cons, List.map_nil]
theorem b0_loop (s2 s3 s4 s5 s6 s8 s9 s10 : Option Sl) : ∀ (j s : Nat) (b : List Int) (s7 s12 : Option Sl) (μ : Mu) (m : Nat), 1 ≤ s → s + j ≤ 8 → Part s b → Town R μ m → m + j ≤ 9900 →
    ∃ (b' : List Int) (μ' : Mu) (x7 x12 : Option Sl), forLoop (gN 7) B0 ((List.range' s j).map nD) (slW ns s2 s3 s4 s5 s6 s7 s8 s9 s10 (some (.own (b.map .int))) s12) μ = .ok (.next (slW ns s2 s3 s4 s5 s6 x7 s8 s9 s10 (some (.own (b'.map .int))) x12)) μ' ∧ Part (s + j) b' ∧ Town R μ' (m + j)
  | 0, s, b, s7, s12, μ, m, _, _, hb, hT, _ => ⟨b, μ, s7, s12, rfl, hb, hT⟩
  | j + 1, s, b, s7, s12, μ, m, h1, h8, hb, hT, hl => by
    obtain ⟨v, μ1, x12, e1, hb1, hT1⟩ := b0_one ns hn h1 (by omega) hb s2 s3 s4 s5 s6 s8 s9 s10 s12 hT (by omega)
    obtain ⟨b', μ', y7, y12, e2, hb2, hT2⟩ := b0_loop s2 s3 s4 s5 s6 s8 s9 s10 j (s + 1) (b ++ [v]) (some (.v (nD s))) x12 μ1 (m + 1) (by omega) (by omega) hb1 hT1 (by omega)
    refine ⟨b', μ', y7, y12, ?_, by rw [show s + (j + 1) = s + 1 + j by omega]; exact hb2, by rw [show m + (j + 1) = m + 1 + j by omega]; exact hT2⟩
    rw [List.range'_succ, List.map_cons]
    unfold forLoop
    show ((B0 (slW ns s2 s3 s4 s5 s6 (some (.v (nD s))) s8 s9 s10 (some (.own (b.map .int))) s12) μ).bind (thenF _)) = _
    rw [e1]
    simp only [Res.bind_ok, e_then_next]
    exact e2
theorem a0_ok {k : Nat} (h1 : 1 ≤ k) (h3 : k ≤ 3) (s3 s5 s6 s7 s8 s9 s10 s11 s12 : Option Sl) {μ : Mu} {m : Nat} (hT : Town R μ m) (hl : m ≤ 9000) :
    ∃ (b : List Int) (μ' : Mu), A0 (slW ns (some (.v (nD k))) s3 (some (.v (nD (2 ^ k)))) s5 s6 s7 s8 s9 s10 s11 s12) μ = .ok (.ret (iT b)) μ' ∧ IsBid (2 ^ k) b ∧ Town R μ' (m + (2 ^ k - 1)) := by
  have h8 := pow_le8 h3
  have h2 : 1 ≤ 2 ^ k := Nat.two_pow_pos k
  have p1 : Part 1 [0] := ⟨rfl, fun x hx => by have : x = 0 := by simpa using hx
                                               subst this; decide, rfl, fun u hu t ht => by
    have : u = 0 := by omega
    subst this
    have : tI 0 = [] := by decide
    rw [this] at ht
    simp at ht⟩
  obtain ⟨b', μ', x7, x12, e1, hb, hT'⟩ := b0_loop ns hn (some (.v (nD k))) s3 (some (.v (nD (2 ^ k)))) s5 s6 s8 s9 s10 (2 ^ k - 1) 1 [0] s7 s12 μ m (by decide) (by omega) p1 hT (by omega)
  rw [show 1 + (2 ^ k - 1) = 2 ^ k by omega] at hb
  refine ⟨b', μ', ?_, part_bid hb, hT'⟩
  refine seq_next (sd' := slW ns (some (.v (nD k))) s3 (some (.v (nD (2 ^ k)))) s5 s6 s7 s8 s9 s10 (some (.own ([0].map .int))) s12) (μ' := μ) rfl ?_
  have rg : rgD 1 ((2 ^ k : Nat) : Int) = (List.range' 1 (2 ^ k - 1)).map nD := by
    rcases (show k = 1 ∨ k = 2 ∨ k = 3 by omega) with rfl | rfl | rfl <;> rfl
  have rok : rg2Ok (.int 1) (nD (2 ^ k)) = some (1, ((2 ^ k : Nat) : Int)) := by
    rcases (show k = 1 ∨ k = 2 ∨ k = 3 by omega) with rfl | rfl | rfl <;> rfl
  refine seq_next (μ' := μ') (by
    simp only [e_sFor, e_iRg2, slW, e_c, e_var, List.getElem?_cons_succ, List.getElem?_cons_zero, Res.bind_ok, rok, lift_some, rg]
    exact e1) (freeze_next rfl ?_)
  refine ret_v ?_
  simp only [slW, List.set_cons_succ, List.set_cons_zero, e_cb, e_aCons, e_aNil, e_var, List.getElem?_cons_succ, List.getElem?_cons_zero, Res.bind_ok, pyTuple, lift_some]
end
end OL

set_option maxHeartbeats 4000000
/-! OLMir12: some_bid, some_room. -/
namespace OL
open PySem DL
section
variable (ns : List Int) (hn : ns.length ≤ 63)
include hn
theorem m_some_bid {k : Nat} (h1 : 1 ≤ k) (h3 : k ≤ 3) {kind : Int} (h0 : 0 ≤ kind ∧ kind < 4) {μ : Mu} {m : Nat} (hT : Town R μ m) (hl : m ≤ 9000) :
    ∃ (b : List Int) (μ' : Mu) (m' : Nat), F__law_some_bid [scrI ns, tok 0, nD k, .int kind] μ = .ok (iT b) μ' ∧ IsBid (2 ^ k) b ∧ Town R μ' m' ∧ m' ≤ m + 10 := by
  suffices h : ∃ (b : List Int) (μ' : Mu) (m' : Nat), D__law_some_bid (slW ns (some (.v (nD k))) (some (.v (.int kind))) none none none none none none none none none) μ = .ok (.ret (iT b)) μ' ∧ IsBid (2 ^ k) b ∧ Town R μ' m' ∧ m' ≤ m + 10 from
    let ⟨b, μ', m', e, r⟩ := h; ⟨b, μ', m', fn_ret e, r⟩
  have h8 := pow_le8 h3
  have e0 : D__law_some_bid = sSeq (sAsg 4 (xV (dBin pyIx (dShare (dLst (aCons (dC (.int 2)) (aCons (dC (.int 4)) (aCons (dC (.int 8)) aNil))))) (dBin pySub (dVar 2) (dC (.int 1))))))
    (sSeq (sIf (dTest (dBin pyEq (dVar 3) (dC (.int 1)))) A1 sNext) (sSeq (sIf (dTest (dBin pyEq (dVar 3) (dC (.int 2)))) A2 sNext) (sSeq (sIf (dTest (dBin pyEq (dVar 3) (dC (.int 3)))) A3 sNext) A0))) := rfl
  have size : dBin pyIx (dShare (dLst (aCons (dC (.int 2)) (aCons (dC (.int 4)) (aCons (dC (.int 8)) aNil))))) (dBin pySub (dVar 2) (dC (.int 1))) (slW ns (some (.v (nD k))) (some (.v (.int kind))) none none none none none none none none none) μ = .ok (nD (2 ^ k)) μ := by
    simp only [slW, e_bin, lst3, e_var, e_c, List.getElem?_cons_succ, List.getElem?_cons_zero, Res.bind_ok, p_sub, x_l, sz_len h1 h3, lift_some]
  have test (i : Int) : dTest (dBin pyEq (dVar 3) (dC (.int i))) (slW ns (some (.v (nD k))) (some (.v (.int kind))) (some (.v (nD (2 ^ k)))) none none none none none none none none) μ = .ok (decide (kind = i)) μ := by
    simp only [slW, e_test, e_bin, e_var, e_c, List.getElem?_cons_succ, List.getElem?_cons_zero, Res.bind_ok, p_eq, lift_some, a_b]
  rw [e0]
  by_cases c1 : kind = 1
  · obtain ⟨b, μ', e1, hb, hT'⟩ := a1_ok ns hn h1 h3 (some (.v (.int kind))) none none none none none none none none hT hl
    refine ⟨b, μ', _, seq_next (asg_v size) (seq_ret (if_t ((test 1).trans (by rw [decide_eq_true c1])) e1)), hb, hT', by omega⟩
  · by_cases c2 : kind = 2
    · obtain ⟨b, μ', e1, hb, hT'⟩ := a2_ok ns hn h1 h3 (some (.v (.int kind))) none none none none none none none none hT hl
      refine ⟨b, μ', _, seq_next (asg_v size) (seq_next (if_f ((test 1).trans (by rw [decide_eq_false c1])) rfl) (seq_ret (if_t ((test 2).trans (by rw [decide_eq_true c2])) e1))), hb, hT', by omega⟩
    · by_cases c3 : kind = 3
      · obtain ⟨b, μ', e1, hb, hT'⟩ := a3_ok ns hn h1 h3 (some (.v (.int kind))) none none none none none none none none hT hl
        refine ⟨b, μ', _, seq_next (asg_v size) (seq_next (if_f ((test 1).trans (by rw [decide_eq_false c1])) rfl) (seq_next (if_f ((test 2).trans (by rw [decide_eq_false c2])) rfl) (seq_ret (if_t ((test 3).trans (by rw [decide_eq_true c3])) e1)))), hb, hT', by omega⟩
      · obtain ⟨b, μ', e1, hb, hT'⟩ := a0_ok ns hn h1 h3 (some (.v (.int kind))) none none none none none none none none hT hl
        refine ⟨b, μ', _, seq_next (asg_v size) (seq_next (if_f ((test 1).trans (by rw [decide_eq_false c1])) rfl) (seq_next (if_f ((test 2).trans (by rw [decide_eq_false c2])) rfl) (seq_next (if_f ((test 3).trans (by rw [decide_eq_false c3])) rfl) e1))), hb, hT', by omega⟩
abbrev B_room : DS := sApp 4 (dCall F__law_some_bid (aCons (dVar 0) (aCons (dVar 1) (aCons (dVar 3) (aCons (dCall F__law_draw (aCons (dVar 0) (aCons (dVar 1) (aCons (dC (.int 4)) aNil)))) aNil)))))
theorem room_loop {k : Nat} (h1 : 1 ≤ k) (h3 : k ≤ 3) (s2 : Option Sl) : ∀ (l : List Nat) (A : List (List Int)) (s5 : Option Sl) (μ : Mu) (m : Nat), (∀ b ∈ A, IsBid (2 ^ k) b) → A.length + l.length ≤ 100 → Town R μ m → m + 11 * l.length ≤ 9000 →
    ∃ (A' : List (List Int)) (μ' : Mu) (m' : Nat) (x5 : Option Sl), forLoop (gN 5) B_room (l.map nD) [some (.v (scrI ns)), some (.v (tok 0)), s2, some (.v (nD k)), some (.own (A.map iT)), s5] μ = .ok (.next [some (.v (scrI ns)), some (.v (tok 0)), s2, some (.v (nD k)), some (.own (A'.map iT)), x5]) μ' ∧ (∀ b ∈ A', IsBid (2 ^ k) b) ∧ A'.length = A.length + l.length ∧ Town R μ' m' ∧ m' ≤ m + 11 * l.length
  | [], A, s5, μ, m, hA, _, hT, _ => ⟨A, μ, m, s5, rfl, hA, rfl, hT, Nat.le_refl _⟩
  | x :: l, A, s5, μ, m, hA, hl, hT, hm => by
    rw [List.length_cons] at hl hm
    obtain ⟨v, μ1, v1, v2, hv, hT1⟩ := m_draw ns hn (show (0 : Int) < 4 by decide) hT (by omega)
    obtain ⟨b, μ2, m2, hb, ib, hT2, hm2⟩ := m_some_bid ns hn h1 h3 ⟨v1, v2⟩ hT1 (by omega)
    obtain ⟨A', μ', m', x5, e1, hA', hl', hT', hm'⟩ := room_loop h1 h3 s2 l (A ++ [b]) (some (.v (nD x))) μ2 m2 (fun c hc => by
      rcases List.mem_append.mp hc with hc | hc
      · exact hA c hc
      · have : c = b := by simpa using hc
        rw [this]; exact ib) (by rw [List.length_append, List.length_cons, List.length_nil]; omega) hT2 (by omega)
    refine ⟨A', μ', m', x5, ?_, hA', by rw [hl', List.length_append, List.length_cons, List.length_nil, List.length_cons]; omega, hT', by rw [List.length_cons]; omega⟩
    rw [List.map_cons]
    unfold forLoop
    have one : B_room [some (.v (scrI ns)), some (.v (tok 0)), s2, some (.v (nD k)), some (.own (A.map iT)), some (.v (nD x))] μ = .ok (.next [some (.v (scrI ns)), some (.v (tok 0)), s2, some (.v (nD k)), some (.own ((A ++ [b]).map iT)), some (.v (nD x))]) μ2 := by
      simp only [B_room, e_app, List.getElem?_cons_succ, List.getElem?_cons_zero, e_call, e_aCons, e_aNil, e_var, e_c, Res.bind_ok, hv, hb]
      rw [if_pos (DL.sizeLt (by rw [List.length_map]; omega))]
      simp only [List.set_cons_succ, List.set_cons_zero, List.map_append, List.map_cons, List.map_nil]
    show ((B_room [some (.v (scrI ns)), some (.v (tok 0)), s2, some (.v (nD k)), some (.own (A.map iT)), some (.v (nD x))] μ).bind (thenF _)) = _
    rw [one]
    simp only [Res.bind_ok, e_then_next]
    exact e1
theorem m_some_room {most : Nat} (h1 : 1 ≤ most) (h4 : most ≤ 4) {μ : Mu} {m : Nat} (hT : Town R μ m) (hl : m ≤ 8000) :
    ∃ (r : List (List Int)) (K : Nat) (μ' : Mu) (m' : Nat), RK r K ∧ r.length ≤ most ∧ F__law_some_room [scrI ns, tok 0, nD most] μ = .ok (rT r) μ' ∧ Town R μ' m' ∧ m' ≤ m + 50 := by
  obtain ⟨v, μ1, v1, v2, hv, hT1⟩ := m_draw ns hn (show (0 : Int) < 3 by decide) hT (by omega)
  obtain ⟨u, μ2, u1, u2, hu, hT2⟩ := m_draw ns hn (show (0 : Int) < (most : Int) by omega) hT1 (by omega)
  have k1 : 1 ≤ (1 + v).toNat := by omega
  have k3 : (1 + v).toNat ≤ 3 := by omega
  obtain ⟨A, μ', m', x5, e1, hA, hlen, hT', hm'⟩ := room_loop ns hn k1 k3 (some (.v (nD most))) (List.range (1 + u).toNat) [] none μ2 (m + 1 + 1) (fun b hb => by simp at hb) (by rw [List.length_range]; simp; omega) hT2 (by rw [List.length_range]; omega)
  rw [List.length_range, List.length_nil, Nat.zero_add] at hlen
  rw [List.length_range] at hm'
  have size : 2 ^ (1 + v).toNat = 2 ∨ 2 ^ (1 + v).toNat = 4 ∨ 2 ^ (1 + v).toNat = 8 := by
    rcases (show (1 + v).toNat = 1 ∨ (1 + v).toNat = 2 ∨ (1 + v).toNat = 3 by omega) with e | e | e <;> rw [e] <;> decide
  refine ⟨A, (1 + v).toNat, μ', m', ⟨⟨by omega, by omega, size, fun b hb => (hA b hb).ok size⟩, k1, k3⟩, by omega, fn_ret (show D__law_some_room [some (.v (scrI ns)), some (.v (tok 0)), some (.v (nD most)), none, none, none] μ = _ from ?_), hT', by omega⟩
  have hg : PyData.int (1 + v) = nD (1 + v).toNat := by show _ = PyData.int _; congr 1; omega
  have hr : rgOk (1 + u) = some (1 + u) := by unfold rgOk; exact if_pos ⟨by omega, by omega⟩
  have e0 : D__law_some_room = sSeq (sPar 3 4 (xV (dBin pyAdd (dC (.int 1)) (dCall F__law_draw (aCons (dVar 0) (aCons (dVar 1) (aCons (dC (.int 3)) aNil)))))) (xO (dLst aNil))) (sSeq (sFor (iRg1 (dBin pyAdd (dC (.int 1)) (dCall F__law_draw (aCons (dVar 0) (aCons (dVar 1) (aCons (dVar 2) aNil)))))) (gN 5) B_room) (sFreeze 4 (sRet (dCB pyTuple (aCons (dVar 4) aNil))))) := rfl
  rw [e0]
  refine seq_next (sd' := [some (.v (scrI ns)), some (.v (tok 0)), some (.v (nD most)), some (.v (nD (1 + v).toNat)), some (.own []), none]) (μ' := μ1) (by
    simp only [e_par, e_xV, e_xO, e_lst, e_bin, e_c, e_call, e_aCons, e_aNil, e_var, List.getElem?_cons_succ, List.getElem?_cons_zero, Res.bind_ok, hv, lift_some, p_add, hg, List.length_nil]
    rw [if_pos (by decide)]
    rfl) ?_
  refine seq_next (μ' := μ') (by
    simp only [e_sFor, e_iRg1, e_bin, e_c, e_call, e_aCons, e_aNil, e_var, List.getElem?_cons_succ, List.getElem?_cons_zero, Res.bind_ok, hu, lift_some, p_add, a_i, Option.bind_some, hr, rg0]
    exact e1) (freeze_next rfl ?_)
  refine ret_v ?_
  simp only [List.set_cons_succ, List.set_cons_zero, e_cb, e_aCons, e_aNil, e_var, List.getElem?_cons_succ, List.getElem?_cons_zero, Res.bind_ok, pyTuple, lift_some]
end
end OL

set_option maxHeartbeats 4000000
/-! OLK20: a bid that grows by one number; best totals of groups put together. -/
namespace OL
open PySem DL
section
variable {r : List (List Int)} {K n : Nat}
/-! ### bids from their check -/
theorem bid_up {b : List Int} {n : Nat} (h : bidB n b = true) {s t : Nat} (hs : s < n) (ht : t < 3) (h1 : 2 ^ t < n) (h2 : t ∉ tI s) : b.getD s 0 ≤ b.getD (s + 2 ^ t) 0 := by
  unfold bidB at h
  simp only [Bool.and_eq_true, decide_eq_true_eq] at h
  obtain ⟨hl, _, _, hr⟩ := h
  have q := List.all_eq_true.mp (List.all_eq_true.mp hr s (List.mem_range.mpr (by omega))) t (List.mem_range.mpr ht)
  unfold falls at q
  rw [hl, decide_eq_true h1, decide_eq_false h2] at q
  have q : ¬ b.getD (s + 2 ^ t) 0 < b.getD s 0 := by simpa using q
  omega
theorem bid_parts {b : List Int} {n : Nat} (h : bidB n b = true) : b.length = n ∧ (∀ x ∈ b, 0 ≤ x ∧ x ≤ 9) ∧ b.getD 0 0 = 0 := by
  unfold bidB at h
  simp only [Bool.and_eq_true, decide_eq_true_eq, List.all_eq_true] at h
  exact ⟨h.1, h.2.1, h.2.2.1⟩
theorem bid_mk {b : List Int} {n : Nat} (h1 : b.length = n) (h2 : ∀ x ∈ b, 0 ≤ x ∧ x ≤ 9) (h3 : b.getD 0 0 = 0) (h4 : ∀ s t, s < n → t < 3 → 2 ^ t < n → t ∉ tI s → b.getD s 0 ≤ b.getD (s + 2 ^ t) 0) : bidB n b = true := by
  have hr : risesB b = true := by
    refine List.all_eq_true.mpr fun s hs => List.all_eq_true.mpr fun t ht => ?_
    have hs : s < n := by have := List.mem_range.mp hs; omega
    have ht := List.mem_range.mp ht
    unfold falls
    rw [h1]
    by_cases c1 : 2 ^ t < n
    · by_cases c2 : t ∈ tI s
      · rw [decide_eq_true c2]
        simp
      · have := h4 s t hs ht c1 c2
        rw [decide_eq_false (show ¬ b.getD (s + 2 ^ t) 0 < b.getD s 0 by omega)]
        simp
    · rw [decide_eq_false c1]
      rfl
  unfold bidB
  rw [hr, h3, decide_eq_true h1]
  have : (b.all fun x => decide (0 ≤ x ∧ x ≤ 9)) = true := List.all_eq_true.mpr fun x hx => decide_eq_true (h2 x hx)
  rw [this]
  rfl
theorem bid_last {b : List Int} {n : Nat} (hn : n = 2 ∨ n = 4 ∨ n = 8) (h : bidB n b = true) : ∀ (m s : Nat), s + m = n - 1 → b.getD s 0 ≤ b.getD (n - 1) 0
  | 0, s, e => by rw [show s = n - 1 by omega]; exact Int.le_refl _
  | m + 1, s, e => by
    have z : ∀ n ∈ [2, 4, 8], ∀ s ∈ List.range (n - 1), (List.range 3).any (fun t => decide (2 ^ t < n) && !decide (t ∈ tI s)) = true := by decide +kernel
    obtain ⟨t, ht, q⟩ := List.any_eq_true.mp (z n (by simpa using hn) s (List.mem_range.mpr (by omega)))
    have ht := List.mem_range.mp ht
    have q : 2 ^ t < n ∧ t ∉ tI s := by simpa using q
    have hs : s < n := by omega
    have up := up_in hn hs ht q.1 q.2
    have h1 := bid_up h hs ht q.1 q.2
    have hp : 0 < 2 ^ t := Nat.two_pow_pos t
    have h2 := bid_last hn h (n - 1 - (s + 2 ^ t)) (s + 2 ^ t) (by omega)
    omega
termination_by m => m
decreasing_by omega
/-! ### entries of those who get nothing -/
theorem rawA_out {G : List Nat} {i : Nat} (h : i ∉ G) : ∀ (k : Nat), ∀ a ∈ rawA n G k, a.getD i 0 = 0
  | 0, a, ha => by
    have e : a = List.replicate n 0 := by simpa [rawA] using ha
    subst e
    rw [List.getD_eq_getElem?_getD, List.getElem?_replicate]
    split <;> rfl
  | k + 1, a, ha => by
    unfold rawA at ha
    rcases List.mem_append.mp ha with ha | ha
    · exact rawA_out h k a ha
    · obtain ⟨b, hb, ha⟩ := List.mem_flatMap.mp ha
      obtain ⟨g, hg, rfl⟩ := List.mem_map.mp ha
      have hne : g ≠ i := fun e => h (e ▸ hg)
      unfold addAt
      rw [List.getD_eq_getElem?_getD, List.getElem?_set_ne hne, ← List.getD_eq_getElem?_getD]
      exact rawA_out h k b hb
/-! ### one bid grows -/
def high (b : List Int) (d : Int) : List Int := 0 :: (b.drop 1).map fun x => x + d
theorem high_getD {b : List Int} {d : Int} {s : Nat} (hs : s < b.length) (h : b.getD 0 0 = 0) : (high b d).getD s 0 = if s = 0 then 0 else b.getD s 0 + d := by
  unfold high
  cases s with
  | zero => rfl
  | succ s =>
    rw [if_neg (by omega), List.getD_cons_succ]
    cases b with
    | nil => simp at hs
    | cons x b =>
      rw [List.drop_succ_cons, List.drop_zero, List.getD_cons_succ]
      have hs : s < b.length := by simpa using hs
      rw [List.getD_eq_getElem?_getD, List.getElem?_map, List.getElem?_eq_getElem hs, List.getD_eq_getElem?_getD, List.getElem?_eq_getElem hs]
      rfl
theorem high_len {b : List Int} {d : Int} (h : 0 < b.length) : (high b d).length = b.length := by
  unfold high
  rw [List.length_cons, List.length_map, List.length_drop]
  omega
theorem high_bid {b : List Int} {n : Nat} (hn : n = 2 ∨ n = 4 ∨ n = 8) (h : bidB n b = true) {d : Int} (hd : 0 ≤ d) (hl : b.getD (n - 1) 0 + d ≤ 9) : bidB n (high b d) = true := by
  obtain ⟨h1, h2, h3⟩ := bid_parts h
  have hp : 0 < b.length := by omega
  have g : ∀ s, s < n → (high b d).getD s 0 = if s = 0 then 0 else b.getD s 0 + d := fun s hs => high_getD (by omega) h3
  refine bid_mk (by rw [high_len hp]; exact h1) (fun x hx => ?_) rfl fun s t hs ht c1 c2 => ?_
  · obtain ⟨s, hs, e⟩ := List.mem_iff_getElem.mp hx
    rw [high_len hp, h1] at hs
    have e2 : (high b d).getD s 0 = x := by
      rw [List.getD_eq_getElem?_getD, List.getElem?_eq_getElem (by rw [high_len hp]; omega), ← e]
      rfl
    rw [g s hs] at e2
    have up := bid_last hn h (n - 1 - s) s (by omega)
    have := h2 _ (getD_mem (b := b) (k := s) (by omega))
    split at e2 <;> omega
  · have up := up_in hn hs ht c1 c2
    have hp2 : 0 < 2 ^ t := Nat.two_pow_pos t
    rw [g s hs, g (s + 2 ^ t) up, if_neg (show ¬ s + 2 ^ t = 0 by omega)]
    have h4 := bid_up h hs ht c1 c2
    have := h2 _ (getD_mem (b := b) (k := s + 2 ^ t) (by omega))
    split <;> omega
def grown (r : List (List Int)) (i : Nat) (d : Int) : List (List Int) := r.set i (high (r.getD i []) d)
theorem grown_len {i : Nat} {d : Int} : (grown r i d).length = r.length := by unfold grown; rw [List.length_set]
theorem grown_rk (h : RK r K) {i : Nat} (hi : i < r.length) {d : Int} (hd : 0 ≤ d) (hl : (r.getD i []).getD (2 ^ K - 1) 0 + d ≤ 9) : RK (grown r i d) K := by
  refine ⟨⟨by rw [grown_len]; exact h.room.one, by rw [grown_len]; exact h.room.most, h.room.size, fun b hb => ?_⟩, h.k1, h.k3⟩
  rcases List.mem_or_eq_of_mem_set hb with hb | rfl
  · exact h.room.bids b hb
  · exact high_bid h.room.size (h.room.bids _ (row_mem hi)) hd hl
theorem grown_row_ne {i j : Nat} {d : Int} (hij : j ≠ i) : (grown r i d).getD j [] = r.getD j [] := by
  unfold grown
  rw [List.getD_eq_getElem?_getD, List.getElem?_set_ne (Ne.symm hij), List.getD_eq_getElem?_getD]
theorem grown_row {i : Nat} {d : Int} (hi : i < r.length) : (grown r i d).getD i [] = high (r.getD i []) d := by
  unfold grown
  rw [List.getD_eq_getElem?_getD, List.getElem?_set_self hi]
  rfl
theorem grown_val (h : RK r K) {i : Nat} (hi : i < r.length) {d : Int} {a : List Int} (ha : a.length = r.length) (hx : ∀ x ∈ a, 0 ≤ x ∧ x < ((2 ^ K : Nat) : Int)) : val (grown r i d) a i = if a.getD i 0 = 0 then 0 else val r a i + d := by
  have hm := hx _ (getD_mem (b := a) (k := i) (by omega))
  have hl := h.room.len (row_mem hi)
  unfold val
  rw [grown_row hi, high_getD (by omega) (bid_zero h (row_mem hi))]
  by_cases c : a.getD i 0 = 0
  · rw [if_pos c, if_pos (by omega)]
  · rw [if_neg c, if_neg (by omega)]
theorem grown_tot (h : RK r K) {i : Nat} (hi : i < r.length) {d : Int} {a : List Int} (ha : a.length = r.length) (hx : ∀ x ∈ a, 0 ≤ x ∧ x < ((2 ^ K : Nat) : Int)) : tot (grown r i d) a = tot r a + if a.getD i 0 = 0 then 0 else d := by
  rw [tot_sum (grown r i d) a (by rw [grown_len]; exact ha), tot_sum r a ha, grown_len]
  rw [sum_set (val (grown r i d) a) (val r a) r.length i hi fun j hj => by unfold val; rw [grown_row_ne hj], grown_val h hi ha hx]
  by_cases c : a.getD i 0 = 0
  · rw [if_pos c, if_pos c]
    have : val r a i = 0 := by
      unfold val
      rw [c]
      exact bid_zero h (row_mem hi)
    omega
  · rw [if_neg c, if_neg c]
    omega
theorem grown_others (h : RK r K) {i : Nat} (hi : i < r.length) {d : Int} : W (grown r i d) K (others (grown r i d).length i) = W r K (others r.length i) := by
  have no : i ∉ others r.length i := fun hm => by
    have := (List.mem_filter.mp hm).2
    simp at this
  have key : ∀ a ∈ rawA r.length (others r.length i) K, tot (grown r i d) a = tot r a := fun a ha => by
    rw [grown_tot h hi (rawA_mem K a ha) (rawA_ent K a ha), if_pos (rawA_out no K a ha), Int.add_zero]
  obtain ⟨h1, h2⟩ := W_at r K (others r.length i)
  obtain ⟨h3, h4⟩ := W_at (grown r i d) K (others (grown r i d).length i)
  rw [grown_len] at h3 h4 ⊢
  have e1 := W_ge (r := grown r i d) (K := K) (G := others r.length i) (a := (bestP r (others r.length i) K).2) (by rw [grown_len]; exact h1)
  rw [key _ h1, h2] at e1
  have e2 := W_ge (r := r) (K := K) (G := others r.length i) h3
  rw [← key _ h3, h4] at e2
  omega
theorem grown_top (h : RK r K) {i : Nat} (hi : i < r.length) {d : Int} (hd : 0 ≤ d) : top r K ≤ top (grown r i d) K ∧ top (grown r i d) K ≤ top r K + d ∧ ((win r K).getD i 0 ≠ 0 → top (grown r i d) K = top r K + d) := by
  obtain ⟨h1, h2⟩ := W_at r K (everyN r)
  obtain ⟨h3, h4⟩ := W_at (grown r i d) K (everyN (grown r i d))
  have el : everyN (grown r i d) = everyN r := by unfold everyN; rw [grown_len]
  have e1 := W_ge (r := grown r i d) (K := K) (G := everyN (grown r i d)) (a := win r K) (by rw [grown_len, el]; exact h1)
  rw [grown_len, el] at h3
  have e2 := W_ge (r := r) (K := K) (G := everyN r) h3
  rw [grown_tot h hi win_len (bestP_ent)] at e1
  have e3 := grown_tot h hi (d := d) (rawA_mem K _ h3) (rawA_ent K _ h3)
  rw [el] at h4
  have h2' : tot r (win r K) = top r K := h2
  have h4' : tot (grown r i d) (bestP (grown r i d) (everyN r) K).2 = top (grown r i d) K := by
    show _ = W _ _ (everyN (grown r i d))
    rw [el]
    exact h4
  have e1' : tot r (win r K) + (if (win r K).getD i 0 = 0 then 0 else d) ≤ top (grown r i d) K := e1
  have e2' : tot r (bestP (grown r i d) (everyN r) K).2 ≤ top r K := e2
  have q : 0 ≤ (if (bestP (grown r i d) (everyN r) K).2.getD i 0 = 0 then (0 : Int) else d) ∧ (if (bestP (grown r i d) (everyN r) K).2.getD i 0 = 0 then (0 : Int) else d) ≤ d := by split <;> omega
  refine ⟨?_, by omega, fun c => ?_⟩
  · split at e1' <;> omega
  · rw [if_neg c] at e1'
    omega
theorem grown_keep (h : RK r K) {i : Nat} (hi : i < r.length) {d : Int} : keep (grown r i d) K i - keep r K i = top (grown r i d) K - top r K := by
  rw [keep_eq, keep_eq, grown_others h hi]
  omega
theorem grown_pay (h : RK r K) {i : Nat} (hi : i < r.length) {d : Int} (hd : 0 ≤ d) (c : (win r K).getD i 0 ≠ 0) (e : (win (grown r i d) K).getD i 0 = (win r K).getD i 0) : pay (grown r i d) K i = pay r K i := by
  have ht := (grown_top h hi hd).2.2 c
  have hw : val (grown r i d) (win (grown r i d) K) i = val r (win r K) i + d := by
    rw [grown_val h hi (by rw [win_len, grown_len]) bestP_ent, if_neg (by rw [e]; exact c)]
    congr 1
    unfold val
    rw [e]
  unfold pay
  have ho := grown_others h hi (d := d)
  show W _ _ _ - _ = W _ _ _ - _
  rw [ho, ht, hw]
  omega
/-! ### groups put together -/
def zeros : List Nat → List Int → List Int
  | [], a => a
  | i :: L, a => zeros L (a.set i 0)
theorem zeros_mem : ∀ (L : List Nat) {G G' : List Nat} (h : ∀ g ∈ G, g ∉ L → g ∈ G') (k : Nat) (a : List Int), a ∈ rawA n G k → zeros L a ∈ rawA n G' k
  | [], G, G', h, k, a, ha => rawA_mono (fun g hg => h g hg (by simp)) k a ha
  | i :: L, G, G', h, k, a, ha => zeros_mem L (G := G.filter fun g => !decide (g = i)) (fun g hg hn => by
      obtain ⟨h1, h2⟩ := List.mem_filter.mp hg
      exact h g h1 (by simp at h2; simp [h2, hn])) k _ (rawA_drop i (fun g hg hne => List.mem_filter.mpr ⟨hg, by simp [hne]⟩) k a ha)
theorem zeros_len : ∀ (L : List Nat) (a : List Int), (zeros L a).length = a.length
  | [], a => rfl
  | i :: L, a => by
    show (zeros L (a.set i 0)).length = _
    rw [zeros_len L, List.length_set]
theorem zeros_val (h : RK r K) : ∀ (L : List Nat) {a : List Int} {j : Nat}, a.length = r.length → j < r.length → val r (zeros L a) j = if j ∈ L then 0 else val r a j
  | [], a, j, ha, hj => by simp [zeros]
  | i :: L, a, j, ha, hj => by
    show val r (zeros L (a.set i 0)) j = _
    rw [zeros_val h L (by rw [List.length_set]; exact ha) hj]
    by_cases c : j ∈ L
    · rw [if_pos c, if_pos (List.mem_cons_of_mem _ c)]
    · rw [if_neg c]
      by_cases e : j = i
      · subst e
        rw [if_pos List.mem_cons_self]
        exact val_set_self h hj ha
      · rw [if_neg (by simp [e, c]), val_set_ne 0 e]
theorem sum_add (f g u : Nat → Int) : ∀ (l : List Nat), (∀ j ∈ l, u j = f j + g j) → (l.map u).sum = (l.map f).sum + (l.map g).sum
  | [], _ => by simp
  | j :: l, h => by
    simp only [List.map_cons, List.sum_cons]
    rw [sum_add f g u l fun k hk => h k (List.mem_cons_of_mem _ hk), h j List.mem_cons_self]
    omega
theorem W_union (h : RK r K) {A B U : List Nat} (hU : ∀ g ∈ U, g ∈ A ∨ g ∈ B) (hd : ∀ g ∈ A, g ∉ B) : W r K U ≤ W r K A + W r K B := by
  obtain ⟨h1, h2⟩ := W_at r K U
  have hl := rawA_mem K _ h1
  have eA := W_ge (r := r) (K := K) (zeros_mem (n := r.length) B (G := U) (G' := A) (fun g hg hn => (hU g hg).resolve_right hn) K _ h1)
  have eB := W_ge (r := r) (K := K) (zeros_mem (n := r.length) A (G := U) (G' := B) (fun g hg hn => (hU g hg).resolve_left hn) K _ h1)
  rw [tot_sum r _ (by rw [zeros_len]; exact hl)] at eA eB
  rw [← h2, tot_sum r _ hl]
  have := sum_add (val r (zeros B (bestP r U K).2)) (val r (zeros A (bestP r U K).2)) (val r (bestP r U K).2) (List.range r.length) fun j hj => by
    have hj := List.mem_range.mp hj
    rw [zeros_val h B hl hj, zeros_val h A hl hj]
    by_cases c1 : j ∈ A
    · rw [if_pos c1, if_neg (hd j c1)]
      omega
    · by_cases c2 : j ∈ B
      · rw [if_neg c1, if_pos c2]
        omega
      · have : val r (bestP r U K).2 j = 0 := by
          unfold val
          rw [rawA_out (fun hm => (hU j hm).elim c1 c2) K _ h1]
          exact bid_zero h (row_mem hj)
        rw [if_neg c1, if_neg c2, this]
        rfl
  omega
theorem rawA_one {i : Nat} (hi : i < n) : ∀ (k x : Nat), x < 2 ^ k → (List.replicate n (0 : Int)).set i (x : Int) ∈ rawA n [i] k
  | 0, x, hx => by
    have : x = 0 := by have : 2 ^ 0 = 1 := rfl
                       omega
    subst this
    have e : (List.replicate n (0 : Int)).set i ((0 : Nat) : Int) = List.replicate n 0 := by
      apply List.ext_getElem?
      intro j
      by_cases hj : i = j
      · subst hj
        rw [List.getElem?_set_self (by simpa using hi), List.getElem?_replicate, if_pos hi]
        rfl
      · rw [List.getElem?_set_ne hj]
    rw [e]
    simp [rawA]
  | k + 1, x, hx => by
    unfold rawA
    by_cases c : x < 2 ^ k
    · exact List.mem_append_left _ (rawA_one hi k x c)
    · have hp : 2 ^ (k + 1) = 2 * 2 ^ k := by rw [Nat.pow_succ]; omega
      refine List.mem_append_right _ (List.mem_flatMap.mpr ⟨_, rawA_one hi k (x - 2 ^ k) (by omega), List.mem_map.mpr ⟨i, by simp, ?_⟩⟩)
      unfold addAt
      rw [List.set_set]
      congr 1
      rw [List.getD_eq_getElem?_getD, List.getElem?_set_self (by simpa using hi)]
      show ((x - 2 ^ k : Nat) : Int) + ((2 ^ k : Nat) : Int) = x
      omega
theorem W_one (h : RK r K) {i : Nat} (hi : i < r.length) : W r K [i] = maxI (r.getD i []) := by
  have hlen := h.room.len (row_mem hi)
  have hne : r.getD i [] ≠ [] := fun e => by
    rw [e] at hlen
    have := Nat.two_pow_pos K
    simp at hlen
    omega
  have single : ∀ a ∈ rawA r.length [i] K, tot r a = val r a i := fun a ha => by
    have hl := rawA_mem K a ha
    have e := tot_drop h hi hl
    have z := rawA_nil (n := r.length) K _ (rawA_drop (G := [i]) (G' := []) i (fun g hg hn => absurd (by simpa using hg) hn) K a ha)
    rw [z, tot_zero h] at e
    omega
  obtain ⟨h1, h2⟩ := W_at r K [i]
  have up : W r K [i] ≤ maxI (r.getD i []) := by
    rw [← h2, single _ h1]
    have hx := rawA_ent K _ h1 _ (getD_mem (b := (bestP r [i] K).2) (k := i) (by rw [rawA_mem K _ h1]; exact hi))
    exact maxI_ge (getD_mem (by omega))
  obtain ⟨s, hs, e⟩ := List.mem_iff_getElem.mp (maxI_mem hne).1
  have low := W_ge (r := r) (K := K) (rawA_one hi K s (by omega))
  rw [single _ (rawA_one hi K s (by omega))] at low
  have ev : val r ((List.replicate r.length (0 : Int)).set i (s : Int)) i = maxI (r.getD i []) := by
    unfold val
    have : ((List.replicate r.length (0 : Int)).set i (s : Int)).getD i 0 = (s : Int) := by
      rw [List.getD_eq_getElem?_getD, List.getElem?_set_self (by simpa using hi)]
      rfl
    rw [this, Int.toNat_natCast, List.getD_eq_getElem?_getD, List.getElem?_eq_getElem hs]
    exact e
  omega
end
end OL

set_option maxHeartbeats 4000000
/-! OLMir14: do_part, least_prices, sum_bid, kept_by. -/
namespace OL
open PySem DL
section
variable {r : List (List Int)} {K n : Nat}
@[simp] theorem m_do_part (h : RK r K) {p : List Int} (hp : p.length = K) (h9 : ∀ x ∈ p, 0 ≤ x ∧ x ≤ 9) (μ : Mu) : F_do_part [rT r, iT p] μ = .ok (.bool (partsB r K (win r K) p)) μ := by
  have hl := h.len
  have k3 := h.k3
  refine fn_ret (show D_do_part [some (.v (rT r)), some (.v (iT p)), none] μ = _ from ?_)
  have z := lc_map (μ := μ) (tgt := gN 2) (fe := dCall F_is_integer (aCons (dVar 2) (aCons (dC (.int 0)) (aCons (dC (.int 9)) aNil)))) (sdw := [some (.v (rT r)), some (.v (iT p)), none]) PyData.int (fun x => PyData.bool (decide (0 ≤ x ∧ x ≤ 9))) (xs := p) fun x hx => ⟨_, rfl, by
    simp only [e_call, e_aCons, e_aNil, e_var, e_c, List.set_cons_succ, List.set_cons_zero, List.getElem?_cons_succ, List.getElem?_cons_zero, Res.bind_ok, m_is_integer]⟩
  have q : dLc (iAny (dVar 1)) (gN 2) dYes (dCall F_is_integer (aCons (dVar 2) (aCons (dC (.int 0)) (aCons (dC (.int 9)) aNil)))) [2] [some (.v (rT r)), some (.v (iT p)), none] μ = .ok (p.map fun x => PyData.bool (decide (0 ≤ x ∧ x ≤ 9))) μ := by
    simp only [e_lc, e_iAny, e_var, List.getElem?_cons_succ, List.getElem?_cons_zero, Res.bind_ok, i_t, lift_some]
    rw [if_pos (by rw [List.length_map]; omega), show wipeD [some (.v (rT r)), some (.v (iT p)), none] [2] = [some (.v (rT r)), some (.v (iT p)), none] from rfl, z]
    rfl
  have a1 : (p.all fun x => decide (0 ≤ x ∧ x ≤ 9)) = true := List.all_eq_true.mpr fun x hx => decide_eq_true (h9 x hx)
  have i1 : L2.atI [PyData.int (top r K), iT (win r K)] 1 = some (iT (win r K)) := rfl
  simp only [D_do_part, e_seq, e_drop, e_call, e_aCons, e_aNil, e_var, List.getElem?_cons_succ, List.getElem?_cons_zero, Res.bind_ok, m_check_room h.room, e_then_next, e_sIf, e_or, e_not, e_test, e_isi, isi_tt, lift_some, a_b, Bool.not_true, if_neg Bool.false_ne_true, e_bin, e_cb, l_t, List.length_map, hp, m_count_things h, p_ne, decide_true, e_next, e_share, q, all_map', a1, e_ret, m_everyone r (show r.length ≤ 100000 by omega), m_best_for h (grp_all h), e_c, x_t, i1, m_parts_win h hp]
/-- the least of each thing's prices -/
def leastP (r : List (List Int)) (K : Nat) : List Int := (List.range K).map fun t => minI ((pricesL r K).map fun p => p.getD t 0)
theorem min_mapN {α : Type} (f : α → Int) {l : List α} (h : l ≠ []) (μ : Mu) : pyMin [.list (l.map fun y => PyData.int (f y))] μ = some (.int (minI (l.map f))) := by
  have e : (l.map fun y => PyData.int (f y)) = (l.map f).map PyData.int := by simp
  rw [e]
  show (asInts ((l.map f).map PyData.int)).bind (fun ns => if ns ≠ [] then some (PyData.int (minI ns)) else none) = _
  rw [asInts_of, Option.bind_some, if_pos (by simpa using h)]
theorem in_rL (p : List Int) (A : List (List Int)) : pyIn (iT p) (rL A) = some (.bool (decide (p ∈ A))) := by
  have e : ((A.map iT).any fun z => PyData.eqv z (iT p)) = decide (p ∈ A) := by
    induction A with
    | nil => simp
    | cons a A ih =>
      rw [List.map_cons, List.any_cons, ih]
      simp only [PyData.eqv, eqv_ints, List.mem_cons]
      by_cases c : a = p
      · simp [c]
      · have c' : ¬ p = a := fun q => c q.symm
        simp [c, c']
  unfold pyIn
  rw [pyIn0_list, if_pos ⟨(Lay.tuple (Lay.ints p)).shaped, (Lay.list (Lay.rows A)).shaped⟩, e]
  rfl
theorem pricesL_len (h : RK r K) : (pricesL r K).length ≤ 1000 := by
  have h1 := List.length_filter_le (partsB r K (win r K)) (allP K)
  have h2 : 10 ^ K ≤ 10 ^ 3 := Nat.pow_le_pow_right (by decide) h.k3
  rw [allP_len] at h1
  exact Nat.le_trans h1 h2
theorem m_least_prices (h : RK r K) (μ : Mu) : F_least_prices [rT r] μ = if pricesL r K = [] then .exc e_NoPrices μ else .ok (if leastP r K ∈ pricesL r K then iT (leastP r K) else .none) μ := by
  have hl := h.len
  have k3 := h.k3
  have hpl := pricesL_len h
  have pe : pyEq (rL (pricesL r K)) (.list []) = some (.bool (decide (pricesL r K = []))) := pe_rL _ []
  by_cases c : pricesL r K = []
  · rw [if_pos c]
    show ((D_least_prices [some (.v (rT r)), none, none, none, none] μ).bind _) = _
    simp only [D_least_prices, e_seq, e_drop, e_call, e_aCons, e_aNil, e_var, List.getElem?_cons_succ, List.getElem?_cons_zero, Res.bind_ok, m_check_room h.room, e_then_next, e_asg, e_xV, m_price_list h, List.set_cons_succ, List.set_cons_zero, e_sIf, e_test, e_bin, lst_nil, pe, decide_eq_true c, lift_some, a_b, if_true, e_raise, Res.bind_exc]
  · rw [if_neg c]
    refine fn_ret (show D_least_prices [some (.v (rT r)), none, none, none, none] μ = _ from ?_)
    have zi : ∀ t ∈ List.range K, dLc (iAny (dVar 1)) (gN 4) dYes (dBin pyIx (dVar 4) (dVar 3)) [4] [some (.v (rT r)), some (.v (rL (pricesL r K))), none, some (.v (nD t)), none] μ = .ok ((pricesL r K).map fun p => PyData.int (p.getD t 0)) μ := fun t ht => by
      have ht := List.mem_range.mp ht
      have z := lc_map (μ := μ) (tgt := gN 4) (fe := dBin pyIx (dVar 4) (dVar 3)) (sdw := [some (.v (rT r)), some (.v (rL (pricesL r K))), none, some (.v (nD t)), none]) iT (fun p => PyData.int (p.getD t 0)) (xs := pricesL r K) fun p hp => ⟨_, rfl, by
        have hlen := allP_mem K p (List.mem_filter.mp hp).1
        simp only [e_bin, e_var, List.set_cons_succ, List.set_cons_zero, List.getElem?_cons_succ, List.getElem?_cons_zero, Res.bind_ok, x_t, at_map, getD_of (show t < p.length by omega), Option.map_some, lift_some]⟩
      simp only [e_lc, e_iAny, e_var, List.getElem?_cons_succ, List.getElem?_cons_zero, Res.bind_ok, i_l, lift_some]
      rw [if_pos (by rw [List.length_map]; omega), show wipeD [some (.v (rT r)), some (.v (rL (pricesL r K))), none, some (.v (nD t)), none] [4] = [some (.v (rT r)), some (.v (rL (pricesL r K))), none, some (.v (nD t)), none] from rfl, z]
      rfl
    have z := lc_map (μ := μ) (tgt := gN 3) (fe := dCB pyMin (aCons (dShare (dLc (iAny (dVar 1)) (gN 4) dYes (dBin pyIx (dVar 4) (dVar 3)) [4])) aNil)) (sdw := [some (.v (rT r)), some (.v (rL (pricesL r K))), none, none, none]) nD (fun t => PyData.int (minI ((pricesL r K).map fun p => p.getD t 0))) (xs := List.range K) fun t ht => ⟨_, rfl, by
      simp only [List.set_cons_succ, List.set_cons_zero, e_cb, e_aCons, e_aNil, e_share, zi t ht, Res.bind_ok, min_mapN _ c, lift_some]⟩
    have q : dCB pyTuple (aCons (dShare (dLc (iRg1 (dCall F_count_things (aCons (dVar 0) aNil))) (gN 3) dYes (dCB pyMin (aCons (dShare (dLc (iAny (dVar 1)) (gN 4) dYes (dBin pyIx (dVar 4) (dVar 3)) [4])) aNil)) [3])) aNil) [some (.v (rT r)), some (.v (rL (pricesL r K))), none, none, none] μ = .ok (iT (leastP r K)) μ := by
      simp only [e_cb, e_aCons, e_aNil, e_share, e_lc, e_iRg1, e_call, e_var, List.getElem?_cons_zero, Res.bind_ok, m_count_things h, a_i, Option.bind_some, rgOk_nat (show K ≤ 100000 by omega), lift_some, rg0n]
      rw [if_pos (by rw [List.length_map, List.length_range]; omega), show wipeD [some (.v (rT r)), some (.v (rL (pricesL r K))), none, none, none] [3] = [some (.v (rT r)), some (.v (rL (pricesL r K))), none, none, none] from rfl, z]
      simp only [nx_ok, Res.bind_ok, pyTuple, lift_some, leastP, iT, List.map_map]
      rfl
    have e0 : D_least_prices = sSeq (sDrop (dCall F_check_room (aCons (dVar 0) aNil))) (sSeq (sAsg 1 (xV (dCall F_price_list (aCons (dVar 0) aNil)))) (sSeq (sIf (dTest (dBin pyEq (dVar 1) (dShare (dLst aNil)))) (sRaise e_NoPrices) sNext)
      (sSeq (sAsg 2 (xV (dCB pyTuple (aCons (dShare (dLc (iRg1 (dCall F_count_things (aCons (dVar 0) aNil))) (gN 3) dYes (dCB pyMin (aCons (dShare (dLc (iAny (dVar 1)) (gN 4) dYes (dBin pyIx (dVar 4) (dVar 3)) [4])) aNil)) [3])) aNil)))) (sRet (dIf (dTest (dBin pyIn (dVar 2) (dVar 1))) (dVar 2) (dC .none)))))) := rfl
    rw [e0]
    refine seq_next (sd' := [some (.v (rT r)), none, none, none, none]) (μ' := μ) (by
      simp only [e_drop, e_call, e_aCons, e_aNil, e_var, List.getElem?_cons_zero, Res.bind_ok, m_check_room h.room]) ?_
    refine seq_next (asg_v (d := rL (pricesL r K)) (μ' := μ) (by
      simp only [e_call, e_aCons, e_aNil, e_var, List.getElem?_cons_zero, Res.bind_ok, m_price_list h])) ?_
    simp only [List.set_cons_succ, List.set_cons_zero]
    refine seq_next (if_f (μ1 := μ) (by
      simp only [e_test, e_bin, e_var, List.getElem?_cons_succ, List.getElem?_cons_zero, lst_nil, Res.bind_ok, pe, lift_some, a_b, decide_eq_false c]) (e_next (μ := μ))) ?_
    refine seq_next (asg_v q) (ret_v ?_)
    simp only [List.set_cons_succ, List.set_cons_zero, e_if, e_test, e_bin, e_var, e_c, List.getElem?_cons_succ, List.getElem?_cons_zero, Res.bind_ok, in_rL, lift_some, a_b]
    by_cases d : leastP r K ∈ pricesL r K
    · rw [decide_eq_true d, if_pos rfl, if_pos d]
    · rw [decide_eq_false d, if_neg Bool.false_ne_true, if_neg d]
end
end OL

set_option maxHeartbeats 4000000
/-! OLMir15: kept_by, sum_bid, total. -/
namespace OL
open PySem DL
section
variable {r : List (List Int)} {K n : Nat}
theorem set_rk (h : RK r K) {i : Nat} {b : List Int} (hb : bidB (2 ^ K) b = true) : RK (r.set i b) K := by
  refine ⟨⟨by rw [List.length_set]; exact h.room.one, by rw [List.length_set]; exact h.room.most, h.room.size, fun c hc => ?_⟩, h.k1, h.k3⟩
  rcases List.mem_or_eq_of_mem_set hc with hc | rfl
  · exact h.room.bids c hc
  · exact hb
theorem put_ok {i : Nat} (hi : i < r.length) (hl : r.length ≤ 4) (b : List Int) : (pyAdd (.tuple (cutD (r.map iT) none (some (i : Int)))) (.tuple [iT b])) = some (.tuple (cutD (r.map iT) none (some (i : Int)) ++ [iT b])) ∧ pyAdd (.tuple (cutD (r.map iT) none (some (i : Int)) ++ [iT b])) (.tuple (cutD (r.map iT) (some ((i : Int) + 1)) none)) = some (rT (r.set i b)) := by
  have e2 := splice (xs := r.map iT) (g := i) (v := iT b) (by rw [List.length_map]; exact hi) (by rw [List.length_map]; omega)
  have e4 : pyAdd (.tuple (cutD (r.map iT) none (some (i : Int)))) (.tuple [iT b]) = some (.tuple (cutD (r.map iT) none (some (i : Int)) ++ [iT b])) := pAddT (by
    rw [cut_to (by rw [List.length_map]; omega), List.length_take, List.length_map]
    simp only [List.length_cons, List.length_nil]
    omega)
  rw [e4, Option.bind_some, ← List.map_set] at e2
  exact ⟨e4, e2⟩
@[simp] theorem m_kept_by (h : RK r K) {i : Nat} (hi : i < r.length) {b : List Int} (hb : bidB (2 ^ K) b = true) (μ : Mu) : F_kept_by [rT r, nD i, iT b] μ = .ok (.int (val r (win (r.set i b) K) i - pay (r.set i b) K i)) μ := by
  have hl := h.len
  have h8 := pow_le8 h.k3
  have h' := set_rk h (i := i) hb
  have hi' : i < (r.set i b).length := by rw [List.length_set]; exact hi
  have hbl := (bid_parts hb).1
  obtain ⟨p1, p2⟩ := put_ok hi hl b
  obtain ⟨r1, r2⟩ := row0 h
  refine fn_ret (show D_kept_by [some (.v (rT r)), some (.v (nD i)), some (.v (iT b)), none, none] μ = _ from ?_)
  have c1 : (0 : Int) ≤ (i : Int) ∧ (i : Int) ≤ (r.length : Int) - 1 := ⟨by omega, by omega⟩
  have ixp : L2.atI ((pays (r.set i b) K).map PyData.int) (i : Int) = some (.int (pay (r.set i b) K i)) := by
    unfold pays everyN
    rw [at_nat, List.map_map, List.getElem?_map, List.getElem?_range hi']
    rfl
  have wl : (win (r.set i b) K).length = r.length := by rw [win_len, List.length_set]
  have ixw : L2.atI ((win (r.set i b) K).map PyData.int) (i : Int) = some (.int ((win (r.set i b) K).getD i 0)) := by
    rw [at_map, getD_of (by omega)]
    rfl
  have ixv := val_at h wl (bestP_ent) hi
  have mb := m_bids_for h.room.size b (by omega) μ
  unfold D_kept_by
  refine seq_next (sd' := [some (.v (rT r)), some (.v (nD i)), some (.v (iT b)), none, none]) (μ' := μ) (by
    simp only [e_drop, e_call, e_aCons, e_aNil, e_var, List.getElem?_cons_zero, Res.bind_ok, m_check_room h.room]) ?_
  refine seq_next (if_f (μ1 := μ) (by
    simp only [e_not, e_test, e_call, e_aCons, e_aNil, e_var, e_c, e_bin, e_cb, List.getElem?_cons_succ, List.getElem?_cons_zero, Res.bind_ok, l_t, List.length_map, lift_some, p_sub, m_is_integer, decide_eq_true c1, a_b, Bool.not_true]) (e_next (μ := μ))) ?_
  refine seq_next (if_f (μ1 := μ) (by
    simp only [e_not, e_test, e_call, e_aCons, e_aNil, e_var, e_c, e_bin, e_cb, List.getElem?_cons_succ, List.getElem?_cons_zero, Res.bind_ok, x_t, r1, lift_some, l_t, List.length_map, r2, mb, hb, a_b, Bool.not_true]) (e_next (μ := μ))) ?_
  refine seq_next (sd' := [some (.v (rT r)), some (.v (nD i)), some (.v (iT b)), some (.v (iT (win (r.set i b) K))), some (.v (iL (pays (r.set i b) K)))]) (μ' := μ) (by
    simp only [e_unp, e_call, e_bin, e_sl, e_var, e_oNone, e_oSome, e_c, e_tup, e_aCons, e_aNil, List.getElem?_cons_succ, List.getElem?_cons_zero, Res.bind_ok, a_i, lift_some, pySl, List.length_cons, List.length_nil]
    rw [if_pos (by decide)]
    simp only [lift_some, Res.bind_ok, p1, p_add, a_i, p2, m_outcome h', e_g2, List.set_cons_succ, List.set_cons_zero]) ?_
  refine ret_v ?_
  simp only [e_bin, e_var, List.getElem?_cons_succ, List.getElem?_cons_zero, Res.bind_ok, x_t, x_l, at_row hi, ixw, ixv, ixp, lift_some, p_sub]
/-! ### sum_bid -/
def sumL (ws : List Int) : List Int := (List.range (2 ^ ws.length)).map fun s => ((tI s).map fun t => ws.getD t 0).sum
@[simp] theorem m_sum_bid {ws : List Int} (h : Ws ws 3) (μ : Mu) : F_sum_bid [iT ws] μ = .ok (iT (sumL ws)) μ := by
  have h1 := h.one
  have h3 := h.three
  have h8 := pow_le8 h3
  refine fn_ret (show D_sum_bid [some (.v (iT ws)), none, none, none] μ = _ from ?_)
  have zi : ∀ s ∈ List.range (2 ^ ws.length), dLc (iAny (dCall F_things_in (aCons (dVar 2) aNil))) (gN 3) dYes (dBin pyIx (dVar 0) (dVar 3)) [3] [some (.v (iT ws)), some (.v (nD (2 ^ ws.length))), some (.v (nD s)), none] μ = .ok ((tI s).map fun t => PyData.int (ws.getD t 0)) μ := fun s hs => by
    have z := lc_map (μ := μ) (tgt := gN 3) (fe := dBin pyIx (dVar 0) (dVar 3)) (sdw := [some (.v (iT ws)), some (.v (nD (2 ^ ws.length))), some (.v (nD s)), none]) nD (fun t => PyData.int (ws.getD t 0)) (xs := tI s) fun t ht => ⟨_, rfl, by
      have ht := tI_lt h3 (List.mem_range.mp hs) t ht
      simp only [e_bin, e_var, List.set_cons_succ, List.set_cons_zero, List.getElem?_cons_succ, List.getElem?_cons_zero, Res.bind_ok, x_t, at_map, getD_of ht, Option.map_some, lift_some]⟩
    have hl : (tI s).length ≤ 3 := List.length_filter_le _ _
    simp only [e_lc, e_iAny, e_call, e_aCons, e_aNil, e_var, List.getElem?_cons_succ, List.getElem?_cons_zero, Res.bind_ok, m_things_in, i_l, lift_some]
    rw [if_pos (by rw [List.length_map]; omega), show wipeD [some (.v (iT ws)), some (.v (nD (2 ^ ws.length))), some (.v (nD s)), none] [3] = [some (.v (iT ws)), some (.v (nD (2 ^ ws.length))), some (.v (nD s)), none] from rfl, z]
    rfl
  have z := lc_map (μ := μ) (tgt := gN 2) (fe := dCB pySum (aCons (dShare (dLc (iAny (dCall F_things_in (aCons (dVar 2) aNil))) (gN 3) dYes (dBin pyIx (dVar 0) (dVar 3)) [3])) aNil)) (sdw := [some (.v (iT ws)), some (.v (nD (2 ^ ws.length))), none, none]) nD (fun s => PyData.int ((tI s).map fun t => ws.getD t 0).sum) (xs := List.range (2 ^ ws.length)) fun s hs => ⟨_, rfl, by
      simp only [List.set_cons_succ, List.set_cons_zero, e_cb, e_aCons, e_aNil, e_share, zi s hs, Res.bind_ok, sum_map', lift_some]⟩
  unfold D_sum_bid
  simp only [e_seq, e_drop, e_call, e_aCons, e_aNil, e_var, e_c, List.getElem?_cons_zero, Res.bind_ok, m_check_worths h, e_then_next, e_asg, e_xV, e_bin, e_cb, l_t, List.length_map, lift_some, p_sub, x_t, sz_len h1 h3, List.set_cons_succ, List.set_cons_zero, e_ret, e_share, e_lc, e_iRg1, List.getElem?_cons_succ, a_i, Option.bind_some, rgOk_nat (show 2 ^ ws.length ≤ 100000 by omega), rg0n]
  rw [if_pos (by simp only [List.length_map, List.length_range]; omega), show wipeD [some (.v (iT ws)), some (.v (.int ((2 ^ ws.length : Nat) : Int))), none, none] [2] = [some (.v (iT ws)), some (.v (nD (2 ^ ws.length))), none, none] from rfl, z]
  simp only [nx_ok, Res.bind_ok, sumL, iT, List.map_map]
  rfl
/-! ### total -/
def givenL (a : List Int) : List Nat := a.flatMap fun x => tI x.toNat
abbrev B_tot : DS := sExt 3 (xV (dCall F_things_in (aCons (dVar 2) aNil)))
theorem tot_loop (s0 s1 : Option Sl) (μ : Mu) : ∀ (a : List Int) (L : List Nat) (s2 : Option Sl), (∀ x ∈ a, 0 ≤ x) → L.length + a.length * 3 ≤ 1000 →
    ∃ x2, forLoop (gN 2) B_tot (a.map .int) [s0, s1, s2, some (.own (L.map nD))] μ = .ok (.next [s0, s1, x2, some (.own ((L ++ givenL a).map nD))]) μ
  | [], L, s2, _, _ => ⟨s2, by simp [forLoop, givenL]⟩
  | x :: a, L, s2, ha, hl => by
    rw [List.length_cons] at hl
    have h3 : (tI x.toNat).length ≤ 3 := List.length_filter_le _ _
    obtain ⟨x2, ih⟩ := tot_loop s0 s1 μ a (L ++ tI x.toNat) (some (.v (.int x))) (fun y hy => ha y (List.mem_cons_of_mem _ hy)) (by rw [List.length_append]; omega)
    refine ⟨x2, ?_⟩
    rw [List.map_cons]
    unfold forLoop
    have hx := ha x List.mem_cons_self
    have exn : PyData.int x = nD x.toNat := by show _ = PyData.int _; congr 1; omega
    have one : B_tot [s0, s1, some (.v (.int x)), some (.own (L.map nD))] μ = .ok (.next [s0, s1, some (.v (.int x)), some (.own ((L ++ tI x.toNat).map nD))]) μ := by
      have ht := m_things_in x.toNat μ
      rw [← exn] at ht
      unfold B_tot sExt
      simp only [List.getElem?_cons_succ, List.getElem?_cons_zero, e_xV, e_call, e_aCons, e_aNil, e_var, Res.bind_ok, ht]
      rw [if_pos (DL.sizeL (by rw [List.length_map, List.length_map]; omega)), ← List.map_append]
      rfl
    show ((B_tot [s0, s1, some (.v (.int x)), some (.own (L.map nD))] μ).bind (thenF _)) = _
    rw [one]
    simp only [Res.bind_ok, e_then_next]
    rw [ih]
    show _ = Res.ok (Flw.next [s0, s1, x2, some (.own ((L ++ (tI x.toNat ++ givenL a)).map nD))]) μ
    rw [List.append_assoc]
theorem m_total (h : RK r K) {a : List Int} (ha : a.length = r.length) (hx : ∀ x ∈ a, 0 ≤ x ∧ x < ((2 ^ K : Nat) : Int)) (μ : Mu) : F_total [rT r, iT a] μ = .ok (if metN (zG (givenL a)) = (givenL a).length then .int (tot r a) else .none) μ := by
  have hl := h.len
  obtain ⟨r1, r2⟩ := row0 h
  refine fn_ret (show D_total [some (.v (rT r)), some (.v (iT a)), none, none] μ = _ from ?_)
  have glen : ∀ b : List Int, (givenL b).length ≤ b.length * 3 := fun b => by
    induction b with
    | nil => exact Nat.le_refl _
    | cons x b ih =>
      have h3 : (tI x.toNat).length ≤ 3 := List.length_filter_le _ _
      show (tI x.toNat ++ givenL b).length ≤ _
      rw [List.length_append, List.length_cons]
      omega
  have hg := glen a
  have z := lc_map (μ := μ) (tgt := gN 2) (fe := dCall F_is_integer (aCons (dVar 2) (aCons (dC (.int 0)) (aCons (dBin pySub (dCB DL.pyLen (aCons (dBin pyIx (dVar 0) (dC (.int 0))) aNil)) (dC (.int 1))) aNil)))) (sdw := [some (.v (rT r)), some (.v (iT a)), none, none]) PyData.int (fun x => PyData.bool (decide (0 ≤ x ∧ x ≤ ((2 ^ K : Nat) : Int) - 1))) (xs := a) fun x hx => ⟨_, rfl, by
    simp only [e_call, e_aCons, e_aNil, e_var, e_c, e_bin, e_cb, List.set_cons_succ, List.set_cons_zero, List.getElem?_cons_succ, List.getElem?_cons_zero, Res.bind_ok, x_t, r1, lift_some, l_t, List.length_map, r2, p_sub, m_is_integer]⟩
  have q : dLc (iAny (dVar 1)) (gN 2) dYes (dCall F_is_integer (aCons (dVar 2) (aCons (dC (.int 0)) (aCons (dBin pySub (dCB DL.pyLen (aCons (dBin pyIx (dVar 0) (dC (.int 0))) aNil)) (dC (.int 1))) aNil)))) [2] [some (.v (rT r)), some (.v (iT a)), none, none] μ = .ok (a.map fun x => PyData.bool (decide (0 ≤ x ∧ x ≤ ((2 ^ K : Nat) : Int) - 1))) μ := by
    simp only [e_lc, e_iAny, e_var, List.getElem?_cons_succ, List.getElem?_cons_zero, Res.bind_ok, i_t, lift_some]
    rw [if_pos (by rw [List.length_map]; omega), show wipeD [some (.v (rT r)), some (.v (iT a)), none, none] [2] = [some (.v (rT r)), some (.v (iT a)), none, none] from rfl, z]
    rfl
  have a1 : (a.all fun x => decide (0 ≤ x ∧ x ≤ ((2 ^ K : Nat) : Int) - 1)) = true := List.all_eq_true.mpr fun x hxx => decide_eq_true (by have := hx x hxx; omega)
  obtain ⟨x2, lp⟩ := tot_loop (some (.v (rT r))) (some (.v (iT a))) μ a [] none (fun x hxx => (hx x hxx).1) (by simp; omega)
  have e0 : D_total = sSeq (sDrop (dCall F_check_room (aCons (dVar 0) aNil))) (sSeq (sIf (dOr (dNot (dTest (dIsi "tuple" (dVar 1)))) (dTest (dBin pyNe (dCB DL.pyLen (aCons (dVar 1) aNil)) (dCB DL.pyLen (aCons (dVar 0) aNil))))) (sRet (dC .none)) sNext)
    (sSeq (sIf (dNot (dTest (dCB pyAll (aCons (dShare (dLc (iAny (dVar 1)) (gN 2) dYes (dCall F_is_integer (aCons (dVar 2) (aCons (dC (.int 0)) (aCons (dBin pySub (dCB DL.pyLen (aCons (dBin pyIx (dVar 0) (dC (.int 0))) aNil)) (dC (.int 1))) aNil)))) [2])) aNil)))) (sRet (dC .none)) sNext)
    (sSeq (sAsg 3 (xO (dLst aNil))) (sSeq (sFor (iAny (dVar 1)) (gN 2) B_tot)
    (sFreeze 3 (sRet (dIf (dTest (dBin pyEq (dUn pyLenSet (dVar 3)) (dCB DL.pyLen (aCons (dVar 3) aNil)))) (dCall F_total_of (aCons (dVar 0) (aCons (dVar 1) aNil))) (dC .none)))))))) := rfl
  rw [e0]
  refine seq_next (sd' := [some (.v (rT r)), some (.v (iT a)), none, none]) (μ' := μ) (by
    simp only [e_drop, e_call, e_aCons, e_aNil, e_var, List.getElem?_cons_zero, Res.bind_ok, m_check_room h.room]) ?_
  refine seq_next (if_f (μ1 := μ) (by
    simp only [e_or, e_not, e_test, e_isi, e_var, e_bin, e_cb, e_aCons, e_aNil, List.getElem?_cons_succ, List.getElem?_cons_zero, Res.bind_ok, isi_tt, lift_some, a_b, Bool.not_true, if_neg Bool.false_ne_true, l_t, List.length_map, ha, p_ne, decide_true]) (e_next (μ := μ))) ?_
  refine seq_next (if_f (μ1 := μ) (by
    simp only [e_not, e_test, e_cb, e_aCons, e_aNil, e_share, q, Res.bind_ok, all_map', a1, lift_some, a_b, Bool.not_true]) (e_next (μ := μ))) ?_
  refine seq_next (sd' := [some (.v (rT r)), some (.v (iT a)), none, some (.own ([].map nD))]) (μ' := μ) rfl ?_
  refine seq_next (μ' := μ) (by
    rw [e_sFor]
    show forLoop (gN 2) B_tot (a.map .int) [some (.v (rT r)), some (.v (iT a)), none, some (.own ([].map nD))] μ = _
    exact lp) (freeze_next rfl (ret_v ?_))
  have hz : (PyData.list (([] ++ givenL a).map nD)) = iL (zG (givenL a)) := by
    rw [List.nil_append]
    show PyData.list _ = PyData.list _
    unfold zG
    rw [List.map_map]
    rfl
  have ls : pyLenSet (iL (zG (givenL a))) = some (.int (metN (zG (givenL a)))) := by
    show (asInts ((zG (givenL a)).map PyData.int)).bind (fun ns => if ns.length ≤ 1000 then some (PyData.int (metN ns)) else none) = _
    rw [asInts_of, Option.bind_some, if_pos (by unfold zG; rw [List.length_map]; omega)]
  have zl : (zG (givenL a)).length = (givenL a).length := by unfold zG; rw [List.length_map]
  have mt := m_total_of (r := r) (a := a) (fun p hp => by
    obtain ⟨b, x⟩ := p
    have hzz := List.of_mem_zip hp
    rw [h.room.len hzz.1]
    exact hx x hzz.2) (show r.length ≤ 100000 by omega) μ
  simp only [List.set_cons_succ, List.set_cons_zero]
  rw [hz]
  simp only [e_if, e_test, e_bin, e_un, e_cb, e_aCons, e_aNil, e_call, e_var, e_c, List.getElem?_cons_succ, List.getElem?_cons_zero, Res.bind_ok, ls, lift_some, l_l, List.length_map, zl, p_eq, a_b]
  by_cases c : metN (zG (givenL a)) = (givenL a).length
  · rw [if_pos c, decide_eq_true (by omega), if_pos rfl, mt]
  · rw [if_neg c, decide_eq_false (by omega), if_neg Bool.false_ne_true]
end
end OL

set_option maxHeartbeats 4000000
/-! OLStep: readings put together; loops that gather. -/
namespace OL
open PySem DL
section
variable {f : D → D → Option D} {fa fb fc fe f1 f2 f3 f4 : DE} {ft fu : DT} {sd : Slots} {μ μ' μ1 μ2 μ3 : Mu} {a b c d : D}
/-! ### readings -/
theorem vr {i : Nat} (h : sd[i]? = some (some (.v d))) : dVar i sd μ = .ok d μ := by rw [e_var, h]
theorem te {x : Bool} (h : fe sd μ = .ok (.bool x) μ') : dTest fe sd μ = .ok x μ' := by rw [e_test, h]; rfl
theorem bn (ha : fa sd μ = .ok a μ1) (hb : fb sd μ1 = .ok b μ2) (h : f a b = some d) : dBin f fa fb sd μ = .ok d μ2 := by rw [e_bin, ha, Res.bind_ok, hb, Res.bind_ok, h]; rfl
theorem tb {x : Bool} (ha : fa sd μ = .ok a μ1) (hb : fb sd μ1 = .ok b μ2) (h : f a b = some (.bool x)) : dTest (dBin f fa fb) sd μ = .ok x μ2 := te (bn ha hb h)
theorem nt {x : Bool} (h : ft sd μ = .ok x μ') : dNot ft sd μ = .ok (!x) μ' := by rw [e_not, h]; rfl
theorem or_t (ha : ft sd μ = .ok true μ') : dOr ft fu sd μ = .ok true μ' := by rw [e_or, ha, Res.bind_ok, if_pos rfl]
theorem or_r {x : Bool} (ha : ft sd μ = .ok false μ1) (hb : fu sd μ1 = .ok x μ2) : dOr ft fu sd μ = .ok x μ2 := by rw [e_or, ha, Res.bind_ok, if_neg Bool.false_ne_true, hb]
theorem and_f (ha : ft sd μ = .ok false μ') : dAnd ft fu sd μ = .ok false μ' := by rw [e_and, ha, Res.bind_ok, if_neg Bool.false_ne_true]
theorem and_r {x : Bool} (ha : ft sd μ = .ok true μ1) (hb : fu sd μ1 = .ok x μ2) : dAnd ft fu sd μ = .ok x μ2 := by rw [e_and, ha, Res.bind_ok, if_pos rfl, hb]
theorem andV_f (ha : fa sd μ = .ok (.bool false) μ') : dAndV fa fb sd μ = .ok (.bool false) μ' := by rw [e_andV, ha]; rfl
theorem andV_r (ha : fa sd μ = .ok (.bool true) μ1) (hb : fb sd μ1 = .ok d μ2) : dAndV fa fb sd μ = .ok d μ2 := by
  rw [e_andV, ha, Res.bind_ok, a_b, lift_some, Res.bind_ok, if_pos rfl, hb]
theorem orV_t (ha : fa sd μ = .ok (.bool true) μ') : dOrV fa fb sd μ = .ok (.bool true) μ' := by rw [e_orV, ha]; rfl
theorem orV_r (ha : fa sd μ = .ok (.bool false) μ1) (hb : fb sd μ1 = .ok d μ2) : dOrV fa fb sd μ = .ok d μ2 := by
  rw [e_orV, ha, Res.bind_ok, a_b, lift_some, Res.bind_ok, if_neg Bool.false_ne_true, hb]
theorem notV_b {x : Bool} (h : fa sd μ = .ok (.bool x) μ') : dNotV fa sd μ = .ok (.bool (!x)) μ' := by rw [e_notV, h]; rfl
theorem ifE_t (h : ft sd μ = .ok true μ1) (h1 : fa sd μ1 = .ok d μ2) : dIf ft fa fb sd μ = .ok d μ2 := by rw [e_if, h, Res.bind_ok, if_pos rfl, h1]
theorem ifE_f (h : ft sd μ = .ok false μ1) (h1 : fb sd μ1 = .ok d μ2) : dIf ft fa fb sd μ = .ok d μ2 := by rw [e_if, h, Res.bind_ok, if_neg Bool.false_ne_true, h1]
/-- tests that come out so -/
theorem ne_f (ha : fa sd μ = .ok a μ1) (hb : fb sd μ1 = .ok b μ2) (h : pyNe a b = some (.bool false)) : dTest (dBin pyNe fa fb) sd μ = .ok false μ2 := tb ha hb h
theorem is_f (ha : fa sd μ = .ok a μ1) (hb : fb sd μ1 = .ok b μ2) (h : pyIs true a b = some (.bool false)) : dTest (dBin (pyIs true) fa fb) sd μ = .ok false μ2 := tb ha hb h
theorem or_f (ha : ft sd μ = .ok false μ1) (hb : fu sd μ1 = .ok false μ2) : dOr ft fu sd μ = .ok false μ2 := or_r ha hb
/-! calls -/
theorem c0 {F : DF} {r : Res D} (h : F [] μ = r) : dCall0 F sd μ = r := h
theorem c1 {F : DF} {r : Res D} (h1 : f1 sd μ = .ok a μ1) (h : F [a] μ1 = r) : dCall F (aCons f1 aNil) sd μ = r := by
  simp only [e_call, e_aCons, e_aNil, h1, Res.bind_ok, h]
theorem c2 {F : DF} {r : Res D} (h1 : f1 sd μ = .ok a μ1) (h2 : f2 sd μ1 = .ok b μ2) (h : F [a, b] μ2 = r) : dCall F (aCons f1 (aCons f2 aNil)) sd μ = r := by
  simp only [e_call, e_aCons, e_aNil, h1, h2, Res.bind_ok, h]
theorem c3 {F : DF} {r : Res D} (h1 : f1 sd μ = .ok a μ1) (h2 : f2 sd μ1 = .ok b μ2) (h3 : f3 sd μ2 = .ok c μ3) (h : F [a, b, c] μ3 = r) : dCall F (aCons f1 (aCons f2 (aCons f3 aNil))) sd μ = r := by
  simp only [e_call, e_aCons, e_aNil, h1, h2, h3, Res.bind_ok, h]
theorem c4 {F : DF} {r : Res D} {μ4 : Mu} (h1 : f1 sd μ = .ok a μ1) (h2 : f2 sd μ1 = .ok b μ2) (h3 : f3 sd μ2 = .ok c μ3) (h4 : f4 sd μ3 = .ok d μ4) (h : F [a, b, c, d] μ4 = r) : dCall F (aCons f1 (aCons f2 (aCons f3 (aCons f4 aNil)))) sd μ = r := by
  simp only [e_call, e_aCons, e_aNil, h1, h2, h3, h4, Res.bind_ok, h]
theorem b1 {F : List D → Mu → Option D} (h1 : f1 sd μ = .ok a μ1) (h : F [a] μ1 = some d) : dCB F (aCons f1 aNil) sd μ = .ok d μ1 := by
  simp only [e_cb, e_aCons, e_aNil, h1, Res.bind_ok, h, lift_some]
theorem b2 {F : List D → Mu → Option D} (h1 : f1 sd μ = .ok a μ1) (h2 : f2 sd μ1 = .ok b μ2) (h : F [a, b] μ2 = some d) : dCB F (aCons f1 (aCons f2 aNil)) sd μ = .ok d μ2 := by
  simp only [e_cb, e_aCons, e_aNil, h1, h2, Res.bind_ok, h, lift_some]
theorem mx2 {x y : Int} (h1 : f1 sd μ = .ok (.int x) μ1) (h2 : f2 sd μ1 = .ok (.int y) μ2) : dCB pyMax (aCons f1 (aCons f2 aNil)) sd μ = .ok (.int (max x y)) μ2 := b2 h1 h2 rfl
/-! displays -/
theorem aE {fs : DA} {ds : List D} (h1 : f1 sd μ = .ok a μ1) (h : fs sd μ1 = .ok ds μ2) : aCons f1 fs sd μ = .ok (a :: ds) μ2 := by rw [e_aCons, h1, Res.bind_ok, h]; rfl
theorem lE {fs : DA} {ds : List D} (h : fs sd μ = .ok ds μ1) (hl : ds.length ≤ 100000 := by first | decide | simp) : dShare (dLst fs) sd μ = .ok (.list ds) μ1 := by
  rw [e_share, e_lst, h, Res.bind_ok, if_pos hl]; rfl
theorem tE {fs : DA} {ds : List D} (h : fs sd μ = .ok ds μ1) (hl : ds.length ≤ 100000 := by first | decide | simp) : dTup fs sd μ = .ok (.tuple ds) μ1 := by
  rw [e_tup, h, Res.bind_ok, if_pos hl]; rfl
theorem aN : aNil sd μ = .ok [] μ := rfl
theorem sh {fl : DA} {ds : List D} (h : fl sd μ = .ok ds μ1) : dShare fl sd μ = .ok (.list ds) μ1 := by rw [e_share, h]; rfl
theorem sub2 {x y : Int} (h1 : f1 sd μ = .ok (.int x) μ1) (h2 : f2 sd μ1 = .ok (.int y) μ2) : dBin pySub f1 f2 sd μ = .ok (.int (x - y)) μ2 := bn h1 h2 rfl
theorem add2 {x y : Int} (h1 : f1 sd μ = .ok (.int x) μ1) (h2 : f2 sd μ1 = .ok (.int y) μ2) : dBin pyAdd f1 f2 sd μ = .ok (.int (x + y)) μ2 := bn h1 h2 rfl
theorem gt_b {x y : Int} (h1 : f1 sd μ = .ok (.int x) μ1) (h2 : f2 sd μ1 = .ok (.int y) μ2) : dTest (dBin pyGt f1 f2) sd μ = .ok (decide (y < x)) μ2 := tb h1 h2 rfl
theorem lt_b {x y : Int} (h1 : f1 sd μ = .ok (.int x) μ1) (h2 : f2 sd μ1 = .ok (.int y) μ2) : dTest (dBin pyLt f1 f2) sd μ = .ok (decide (x < y)) μ2 := tb h1 h2 rfl
/-! comprehensions -/
theorem lcE {α : Type} (en : α → D) (p : α → Bool) (g : α → D) {xs : List α} {fi : DI} {tgt : DG} {vs : List Nat} (hi : fi sd μ = .ok (xs.map en) μ1) (hl : xs.length ≤ 100000)
    (h : ∀ x ∈ xs, ∃ sd1, tgt (en x) (wipeD sd vs) = some sd1 ∧ ft sd1 μ1 = .ok (p x) μ1 ∧ (p x = true → fe sd1 μ1 = .ok (g x) μ1)) : dLc fi tgt ft fe vs sd μ = .ok ((xs.filter p).map g) μ1 := by
  rw [e_lc, hi, Res.bind_ok, if_pos (by rw [List.length_map]; exact hl), lc_enc en p g h]
  rfl
theorem lcM {α : Type} (en : α → D) (g : α → D) {xs : List α} {fi : DI} {tgt : DG} {vs : List Nat} (hi : fi sd μ = .ok (xs.map en) μ1) (hl : xs.length ≤ 100000)
    (h : ∀ x ∈ xs, ∃ sd1, tgt (en x) (wipeD sd vs) = some sd1 ∧ fe sd1 μ1 = .ok (g x) μ1) : dLc fi tgt dYes fe vs sd μ = .ok (xs.map g) μ1 := by
  rw [e_lc, hi, Res.bind_ok, if_pos (by rw [List.length_map]; exact hl), lc_map en g h]
  rfl
theorem iA {xs : List D} (h : fe sd μ = .ok (.list xs) μ1) : iAny fe sd μ = .ok xs μ1 := by rw [e_iAny, h]; rfl
theorem iAt {xs : List D} (h : fe sd μ = .ok (.tuple xs) μ1) : iAny fe sd μ = .ok xs μ1 := by rw [e_iAny, h]; rfl
theorem iR {n : Nat} (h : fe sd μ = .ok (nD n) μ1) (hn : n ≤ 100000) : iRg1 fe sd μ = .ok ((List.range n).map nD) μ1 := by
  rw [e_iRg1, h, Res.bind_ok, a_i, Option.bind_some, rgOk_nat hn, lift_some, Res.bind_ok, rg0n]
/-! statements -/
theorem for_s {fi : DI} {tgt : DG} {s : DS} {ds : List D} {r : Res Flw} (hi : fi sd μ = .ok ds μ1) (h : forLoop tgt s ds sd μ1 = r) : sFor fi tgt s sd μ = r := by rw [e_sFor, hi]; exact h
theorem asg_o {i : Nat} {fl : DA} {ds : List D} (h : fl sd μ = .ok ds μ') : sAsg i (xO fl) sd μ = .ok (.next (sd.set i (some (.own ds)))) μ' := by rw [e_asg, e_xO, h]; rfl
theorem drop_n (h : fe sd μ = .ok d μ') : sDrop fe sd μ = .ok (.next sd) μ' := by rw [e_drop, h]; rfl
theorem seq_exc {s h : DS} {c : Nat} (h1 : s sd μ = .exc c μ') : sSeq s h sd μ = .exc c μ' := by rw [e_seq, h1]; rfl
theorem drop_exc {c : Nat} (h : fe sd μ = .exc c μ') : sDrop fe sd μ = .exc c μ' := by rw [e_drop, h]; rfl
theorem ret_exc {c : Nat} (h : fe sd μ = .exc c μ') : sRet fe sd μ = .exc c μ' := by rw [e_ret, h]; rfl
theorem app_n {i : Nat} {xs : List D} (hs : sd[i]? = some (some (.own xs))) (h : fe sd μ = .ok d μ') (hl : xs.length < 100000) : sApp i fe sd μ = .ok (.next (sd.set i (some (.own (xs ++ [d]))))) μ' := by
  rw [e_app, hs]
  simp only [h, Res.bind_ok]
  rw [if_pos (DL.sizeLt hl)]
theorem fn_exc {n c : Nat} {s : DS} {ds : List D} (h : s (ds.map (fun d => some (.v d)) ++ List.replicate (n - ds.length) none) μ = .exc c μ') : fnD n s ds μ = .exc c μ' := by
  unfold fnD
  rw [h]
  rfl
end
/-! ### loops -/
/-- a loop that gathers what each turn gives -/
theorem for_flat {α : Type} (B : Nat) (en : α → D) {tgt : DG} {fb : DS} {μ : Mu} (S : List D → Slots → Prop) (g : α → List D) : ∀ {xs : List α} (step : ∀ x ∈ xs, ∀ L sd, S L sd → L.length + (g x).length ≤ B → ∃ sd1 sd2, tgt (en x) sd = some sd1 ∧ fb sd1 μ = .ok (.next sd2) μ ∧ S (L ++ g x) sd2) {L : List D} {sd : Slots}, S L sd → L.length + (xs.flatMap g).length ≤ B →
    ∃ sd', forLoop tgt fb (xs.map en) sd μ = .ok (.next sd') μ ∧ S (L ++ xs.flatMap g) sd'
  | [], _, L, sd, h, _ => ⟨sd, rfl, by simpa using h⟩
  | x :: xs, step, L, sd, h, hl => by
    rw [List.flatMap_cons, List.length_append] at hl
    obtain ⟨sd1, sd2, h1, h2, h3⟩ := step x List.mem_cons_self L sd h (by omega)
    obtain ⟨sd', h4, h5⟩ := for_flat B en S g (xs := xs) (fun y hy => step y (List.mem_cons_of_mem _ hy)) h3 (by rw [List.length_append]; omega)
    refine ⟨sd', ?_, by rw [List.flatMap_cons, ← List.append_assoc]; exact h5⟩
    rw [List.map_cons]
    unfold forLoop
    rw [h1]
    simp only [h2, Res.bind_ok, e_then_next, h4]
/-- a loop that carries a value -/
theorem for_fold {α β : Type} (en : α → D) {tgt : DG} {fb : DS} {μ : Mu} (S : β → Slots → Prop) (g : β → α → β) : ∀ {xs : List α} (step : ∀ x ∈ xs, ∀ b sd, S b sd → ∃ sd1 sd2, tgt (en x) sd = some sd1 ∧ fb sd1 μ = .ok (.next sd2) μ ∧ S (g b x) sd2) {b : β} {sd : Slots}, S b sd →
    ∃ sd', forLoop tgt fb (xs.map en) sd μ = .ok (.next sd') μ ∧ S (xs.foldl g b) sd'
  | [], _, b, sd, h => ⟨sd, rfl, h⟩
  | x :: xs, step, b, sd, h => by
    obtain ⟨sd1, sd2, h1, h2, h3⟩ := step x List.mem_cons_self b sd h
    obtain ⟨sd', h4, h5⟩ := for_fold en S g (xs := xs) (fun y hy => step y (List.mem_cons_of_mem _ hy)) h3
    refine ⟨sd', ?_, h5⟩
    rw [List.map_cons]
    unfold forLoop
    rw [h1]
    simp only [h2, Res.bind_ok, e_then_next, h4]
end OL

set_option maxHeartbeats 4000000
/-! OLMir16: the law's own list of allotments. -/
namespace OL
open PySem DL
def meetL (a b : Nat) : List Nat := (tI a).filter fun t => decide (t ∈ tI b)
abbrev IS : DA := dLc (iAny (dCall F__law_inside (aCons (dVar 6) aNil))) (gN 7) (dTest (dBin pyIn (dVar 7) (dCall F__law_inside (aCons (dVar 5) aNil)))) (dC (.int 1)) [7]
abbrev BI : DS := sIf (dTest (dBin pyEq (dShare IS) (dShare (dLst aNil)))) (sApp 3 (dBin pyAdd (dVar 4) (dTup (aCons (dVar 6) aNil)))) sNext
abbrev BM : DS := sSeq (sAsg 5 (xV (dCB pySum (aCons (dVar 4) aNil)))) (sFor (iRg1 (dCB DL.pyLen (aCons (dVar 2) aNil))) (gN 6) BI)
abbrev BO : DS := sSeq (sAsg 3 (xO (dLst aNil))) (sSeq (sFor (iAny (dVar 1)) (gN 4) BM) (sFreeze 3 (sAsg 1 (xV (dVar 3)))))
theorem is_ok (s0 s1 s2 s3 s4 s7 : Option Sl) (g m : Nat) (μ : Mu) : dShare IS [s0, s1, s2, s3, s4, some (.v (nD g)), some (.v (nD m)), s7] μ = .ok (iL ((meetL m g).map fun _ => 1)) μ := by
  have hl : (tI m).length ≤ 3 := List.length_filter_le _ _
  have z : IS [s0, s1, s2, s3, s4, some (.v (nD g)), some (.v (nD m)), s7] μ = .ok ((meetL m g).map fun _ => .int 1) μ :=
    lcE nD (fun t => decide (t ∈ tI g)) (fun _ => .int 1) (iA (c1 (vr rfl) (m_inside m μ))) (by omega) fun t ht => ⟨_, rfl, tb (vr rfl) (c1 (vr rfl) (m_inside g μ)) (p_in t _), fun _ => rfl⟩
  rw [sh z]
  show Res.ok (PyData.list _) μ = Res.ok (PyData.list _) μ
  rw [List.map_map]
  rfl
def shS (K : Nat) (own : List Int) : List (List Int) := (List.range (2 ^ K)).flatMap fun m => if meetL m own.sum.toNat = [] then [own ++ [(m : Int)]] else []
def shStep (K : Nat) (A : List (List Int)) : List (List Int) := A.flatMap (shS K)
def shL (K : Nat) : Nat → List (List Int)
  | 0 => [[]]
  | n + 1 => shStep K (shL K n)
theorem flat_le {α β : Type} (f : α → List β) (m : Nat) : ∀ (l : List α), (∀ a ∈ l, (f a).length ≤ m) → (l.flatMap f).length ≤ l.length * m
  | [], _ => by simp
  | a :: l, h => by
    rw [List.flatMap_cons, List.length_append, List.length_cons, Nat.succ_mul]
    have h1 := h a List.mem_cons_self
    have h2 := flat_le f m l fun b hb => h b (List.mem_cons_of_mem _ hb)
    omega
theorem shS_len (K : Nat) (own : List Int) : (shS K own).length ≤ 2 ^ K := by
  unfold shS
  have z := flat_le (fun m : Nat => if meetL m own.sum.toNat = [] then [own ++ [(m : Int)]] else []) 1 (List.range (2 ^ K)) fun m _ => by
    split <;> simp
  rw [List.length_range] at z
  omega
theorem shL_len (K : Nat) : ∀ n, (shL K n).length ≤ (2 ^ K) ^ n
  | 0 => by simp [shL]
  | n + 1 => by
    unfold shL shStep
    have z := flat_le (shS K) (2 ^ K) (shL K n) fun a _ => shS_len K a
    have ih := shL_len K n
    rw [Nat.pow_succ]
    exact Nat.le_trans z (Nat.mul_le_mul_right _ ih)
theorem shS_mem {K : Nat} {own a : List Int} (h : a ∈ shS K own) : ∃ m : Nat, m < 2 ^ K ∧ meetL m own.sum.toNat = [] ∧ a = own ++ [(m : Int)] := by
  obtain ⟨m, hm, h⟩ := List.mem_flatMap.mp h
  by_cases c : meetL m own.sum.toNat = []
  · rw [if_pos c] at h
    exact ⟨m, List.mem_range.mp hm, c, by simpa using h⟩
  · rw [if_neg c] at h
    simp at h
theorem shL_mem (K : Nat) : ∀ n, ∀ a ∈ shL K n, a.length = n ∧ ∀ x ∈ a, 0 ≤ x ∧ x < ((2 ^ K : Nat) : Int)
  | 0, a, h => by
    have : a = [] := by simpa [shL] using h
    subst this
    exact ⟨rfl, fun x hx => by simp at hx⟩
  | n + 1, a, h => by
    obtain ⟨own, ho, h⟩ := List.mem_flatMap.mp h
    obtain ⟨m, hm, _, rfl⟩ := shS_mem h
    obtain ⟨h1, h2⟩ := shL_mem K n own ho
    refine ⟨by rw [List.length_append, h1]; rfl, fun x hx => ?_⟩
    rcases List.mem_append.mp hx with hx | hx
    · exact h2 x hx
    · have : x = (m : Int) := by simpa using hx
      omega
theorem sum_nn : ∀ {a : List Int}, (∀ x ∈ a, 0 ≤ x) → 0 ≤ a.sum
  | [], _ => by simp
  | x :: a, h => by
    rw [List.sum_cons]
    have := h x List.mem_cons_self
    have := sum_nn fun y hy => h y (List.mem_cons_of_mem _ hy)
    omega
theorem sum_iT (a : List Int) (μ : Mu) : pySum [iT a] μ = some (.int a.sum) := by
  show (asInts (a.map PyData.int)).map (fun ns => PyData.int ns.sum) = _
  rw [asInts_of]
  rfl
theorem sum_iL (a : List Int) (μ : Mu) : pySum [iL a] μ = some (.int a.sum) := by
  show (asInts (a.map PyData.int)).map (fun ns => PyData.int ns.sum) = _
  rw [asInts_of]
  rfl
theorem bi_ok (s0 s1 s2 s7 : Option Sl) (own : List Int) (ho : own.length ≤ 100) (g m : Nat) (L : List D) (hL : L.length ≤ 90000) (μ : Mu) :
    BI [s0, s1, s2, some (.own L), some (.v (iT own)), some (.v (nD g)), some (.v (nD m)), s7] μ = .ok (.next [s0, s1, s2, some (.own (L ++ if meetL m g = [] then [iT (own ++ [(m : Int)])] else [])), some (.v (iT own)), some (.v (nD g)), some (.v (nD m)), s7]) μ := by
  have e := pe_iL ((meetL m g).map fun _ => 1) []
  have e : pyEq (iL ((meetL m g).map fun _ => 1)) (.list []) = some (.bool (decide (meetL m g = []))) := by
    rw [show decide (meetL m g = []) = decide (((meetL m g).map fun _ => (1 : Int)) = []) by simp]
    exact e
  by_cases c : meetL m g = []
  · rw [if_pos c]
    rw [decide_eq_true c] at e
    refine if_t (tb (is_ok _ _ _ _ _ _ _ _ _) (lst_nil _ _) e) (app_n rfl (bn (vr rfl) (tE (aE (vr rfl) aN)) ?_) (by omega))
    rw [pAddT (by rw [List.length_map]; simp only [List.length_cons, List.length_nil]; omega)]
    show _ = some (PyData.tuple _)
    rw [List.map_append]
    rfl
  · rw [if_neg c, List.append_nil]
    rw [decide_eq_false c] at e
    exact if_f (tb (is_ok _ _ _ _ _ _ _ _ _) (lst_nil _ _) e) (e_next (μ := μ))
theorem bm_ok (s0 s1 s5 s6 s7 : Option Sl) (b own : List Int) (ho : own.length ≤ 100) (h0 : ∀ x ∈ own, 0 ≤ x) {K : Nat} (hb : b.length = 2 ^ K) (hK : K ≤ 3) (L : List D) (hL : L.length ≤ 80000) (μ : Mu) :
    ∃ s5' s6' s7', BM [s0, s1, some (.v (iT b)), some (.own L), some (.v (iT own)), s5, s6, s7] μ = .ok (.next [s0, s1, some (.v (iT b)), some (.own (L ++ (shS K own).map iT)), some (.v (iT own)), s5', s6', s7']) μ := by
  have hs := sum_nn h0
  have es : PyData.int own.sum = nD own.sum.toNat := by show _ = PyData.int _; congr 1; omega
  have h8 := pow_le8 hK
  have e : ∀ m ∈ List.range (2 ^ K), (if meetL m own.sum.toNat = [] then [iT (own ++ [(m : Int)])] else []).length ≤ 1 := fun m _ => by split <;> simp
  obtain ⟨sd', h1, s6', s7', h2⟩ := for_flat (μ := μ) (tgt := gN 6) (fb := BI) 90000 nD (fun L sd => ∃ x6 x7, sd = [s0, s1, some (.v (iT b)), some (.own L), some (.v (iT own)), some (.v (nD own.sum.toNat)), x6, x7]) (fun m => if meetL m own.sum.toNat = [] then [iT (own ++ [(m : Int)])] else []) (xs := List.range (2 ^ K)) (fun m hm L sd ⟨x6, x7, q⟩ hl => by
    subst q
    exact ⟨_, _, rfl, bi_ok _ _ _ _ own ho _ m L (by omega) μ, _, _, rfl⟩) (L := L) (sd := [s0, s1, some (.v (iT b)), some (.own L), some (.v (iT own)), some (.v (nD own.sum.toNat)), s6, s7]) ⟨_, _, rfl⟩ (by
      have := flat_le _ 1 _ e
      rw [List.length_range] at this
      omega)
  refine ⟨some (.v (nD own.sum.toNat)), s6', s7', seq_next (asg_v (d := nD own.sum.toNat) (b1 (vr rfl) ((sum_iT own μ).trans (by rw [es])))) (for_s (iR (n := 2 ^ K) (b1 (vr rfl) ?_) (by omega)) ?_)⟩
  · rw [l_t, List.length_map, hb]
  · simp only [List.set_cons_succ, List.set_cons_zero]
    rw [h1, h2]
    congr 6
    have eq : (List.range (2 ^ K)).flatMap (fun m => if meetL m own.sum.toNat = [] then [iT (own ++ [(m : Int)])] else []) = (shS K own).map iT := by
      unfold shS
      rw [List.map_flatMap]
      congr 1
      funext m
      split <;> rfl
    rw [eq]
theorem bo_ok (s0 s4 s5 s6 s7 : Option Sl) {K n : Nat} (hK : K ≤ 3) (hn : n ≤ 3) (b : List Int) (hb : b.length = 2 ^ K) (s3 : Option Sl) (μ : Mu) :
    ∃ x3 x4 x5 x6 x7, BO [s0, some (.v (rL (shL K n))), some (.v (iT b)), s3, s4, s5, s6, s7] μ = .ok (.next [s0, some (.v (rL (shL K (n + 1)))), some (.v (iT b)), x3, x4, x5, x6, x7]) μ := by
  have h8 := pow_le8 hK
  have l1 := shL_len K n
  have l2 := shL_len K (n + 1)
  have p8 : (2 ^ K) ^ (n + 1) ≤ 8 ^ 4 := Nat.le_trans (Nat.pow_le_pow_left h8 _) (Nat.pow_le_pow_right (by decide) (by omega))
  have l2' : ((shL K n).flatMap fun own => (shS K own).map iT).length ≤ 8 ^ 4 := by
    have : ((shL K n).flatMap fun own => (shS K own).map iT) = (shL K (n + 1)).map iT := by
      show _ = ((shL K n).flatMap (shS K)).map iT
      rw [List.map_flatMap]
    rw [this, List.length_map]
    omega
  obtain ⟨sd', h1, x4, x5, x6, x7, h2⟩ := for_flat (μ := μ) (tgt := gN 4) (fb := BM) 80000 iT (fun L sd => ∃ x4 x5 x6 x7, sd = [s0, some (.v (rL (shL K n))), some (.v (iT b)), some (.own L), x4, x5, x6, x7]) (fun own => (shS K own).map iT) (xs := shL K n) (fun own ho L sd ⟨x4, x5, x6, x7, q⟩ hl => by
    subst q
    obtain ⟨m1, m2⟩ := shL_mem K n own ho
    obtain ⟨y5, y6, y7, hh⟩ := bm_ok s0 (some (.v (rL (shL K n)))) x5 x6 x7 b own (by omega) (fun x hx => (m2 x hx).1) hb hK L (by omega) μ
    exact ⟨_, _, rfl, hh, _, _, _, _, rfl⟩) (L := []) (sd := [s0, some (.v (rL (shL K n))), some (.v (iT b)), some (.own []), s4, s5, s6, s7]) ⟨_, _, _, _, rfl⟩ (by simp only [List.length_nil]; omega)
  have eq : ([] : List D) ++ (shL K n).flatMap (fun own => (shS K own).map iT) = (shL K (n + 1)).map iT := by
    rw [List.nil_append]
    show _ = ((shL K n).flatMap (shS K)).map iT
    rw [List.map_flatMap]
  rw [eq] at h2
  refine ⟨some (.v (rL (shL K (n + 1)))), x4, x5, x6, x7, seq_next (asg_o (ds := []) rfl) (seq_next (sd' := sd') (μ' := μ) (for_s (iA (vr rfl)) h1) ?_)⟩
  subst h2
  exact freeze_next rfl ((asg_v (d := rL (shL K (n + 1))) (μ' := μ) rfl).trans rfl)
theorem sh_loop (s0 : Option Sl) {K : Nat} (hK : K ≤ 3) (μ : Mu) : ∀ (bs : List (List Int)) (n : Nat) (s2 s3 s4 s5 s6 s7 : Option Sl), (∀ b ∈ bs, b.length = 2 ^ K) → n + bs.length ≤ 4 →
    ∃ x2 x3 x4 x5 x6 x7, forLoop (gN 2) BO (bs.map iT) [s0, some (.v (rL (shL K n))), s2, s3, s4, s5, s6, s7] μ = .ok (.next [s0, some (.v (rL (shL K (n + bs.length)))), x2, x3, x4, x5, x6, x7]) μ
  | [], n, s2, s3, s4, s5, s6, s7, _, _ => ⟨s2, s3, s4, s5, s6, s7, rfl⟩
  | b :: bs, n, s2, s3, s4, s5, s6, s7, hb, hn => by
    rw [List.length_cons] at hn
    obtain ⟨y3, y4, y5, y6, y7, h1⟩ := bo_ok s0 s4 s5 s6 s7 hK (n := n) (by omega) b (hb b List.mem_cons_self) s3 μ
    obtain ⟨x2, x3, x4, x5, x6, x7, h2⟩ := sh_loop s0 hK μ bs (n + 1) (some (.v (iT b))) y3 y4 y5 y6 y7 (fun c hc => hb c (List.mem_cons_of_mem _ hc)) (by omega)
    refine ⟨x2, x3, x4, x5, x6, x7, ?_⟩
    rw [List.map_cons]
    unfold forLoop
    show (BO [s0, some (.v (rL (shL K n))), some (.v (iT b)), s3, s4, s5, s6, s7] μ).bind (thenF _) = _
    rw [h1, Res.bind_ok, e_then_next, h2, List.length_cons, show n + 1 + bs.length = n + (bs.length + 1) by omega]
theorem m_shares {r : List (List Int)} {K : Nat} (hK : K ≤ 3) (hb : ∀ b ∈ r, b.length = 2 ^ K) (hr : r.length ≤ 4) (μ : Mu) : F__law_shares [rT r] μ = .ok (rL (shL K r.length)) μ := by
  refine fn_ret (show D__law_shares [some (.v (rT r)), none, none, none, none, none, none, none] μ = _ from ?_)
  obtain ⟨x2, x3, x4, x5, x6, x7, h⟩ := sh_loop (some (.v (rT r))) hK μ r 0 none none none none none none hb (by omega)
  rw [Nat.zero_add] at h
  exact seq_next (asg_v (d := rL (shL K 0)) (lE (ds := [.tuple []]) (aE (tE aN) aN))) (seq_next (μ' := μ) (for_s (iAt (vr rfl)) h) (ret_v (vr rfl)))
/-! ### it is the program's list -/
theorem sh_all {n K : Nat} (h1 : 1 ≤ n) (h4 : n ≤ 4) (k1 : 1 ≤ K) (k3 : K ≤ 3) : allA n (List.range n) K = shL K n := by
  have hn : n = 1 ∨ n = 2 ∨ n = 3 ∨ n = 4 := by omega
  have hk : K = 1 ∨ K = 2 ∨ K = 3 := by omega
  rcases hn with rfl | rfl | rfl | rfl <;> rcases hk with rfl | rfl | rfl <;> exact sorted_is (List.isPerm_iff.mp (by decide +kernel)) (by decide +kernel)
end OL

set_option maxHeartbeats 4000000
/-! OLMir17: the law's own best totals, first best allotment, payments. -/
namespace OL
open PySem DL
section
variable {r : List (List Int)} {K : Nat}
theorem RK.bl (h : RK r K) : ∀ b ∈ r, b.length = 2 ^ K := fun b hb => h.room.len hb
theorem RK.shares (h : RK r K) (μ : Mu) : F__law_shares [rT r] μ = .ok (rL (allA r.length (everyN r) K)) μ := by
  rw [m_shares h.k3 h.bl h.len, ← sh_all h.room.one h.len h.k1 h.k3]
/-- an allotment's entries are sets -/
structure Ent (r : List (List Int)) (K : Nat) (a : List Int) : Prop where
  len : a.length = r.length
  rng : ∀ x ∈ a, 0 ≤ x ∧ x < ((2 ^ K : Nat) : Int)
theorem ent_of {G : List Nat} {a : List Int} (ha : a ∈ allA r.length G K) : Ent r K a := ⟨rawA_mem K a (allA_mem ha), rawA_ent K a (allA_mem ha)⟩
theorem m_worth_of (h : RK r K) {a : List Int} (e : Ent r K a) (μ : Mu) : F__law_worth_of [rT r, iT a] μ = .ok (.int (tot r a)) μ := by
  refine fn_ret (show D__law_worth_of [some (.v (rT r)), some (.v (iT a)), none, none] μ = _ from ?_)
  have z : dLc (iZ2 (dVar 0) (dVar 1)) (g2 2 3) dYes (dBin pyIx (dVar 2) (dVar 3)) [2, 3] [some (.v (rT r)), some (.v (iT a)), none, none] μ = .ok ((r.zip a).map fun p => PyData.int (p.1.getD p.2.toNat 0)) μ := by
    refine lcM (fun p : List Int × Int => PyData.tuple [iT p.1, .int p.2]) _ ?_ (by rw [List.length_zip]; have := h.len; omega) fun p hp => ⟨_, rfl, ?_⟩
    · simp only [e_iZ2, e_var, List.getElem?_cons_succ, List.getElem?_cons_zero, Res.bind_ok, zip2Of, lift_some, zip2_map]
    · have hz := List.of_mem_zip hp
      have hx := e.rng _ hz.2
      exact bn (vr rfl) (vr rfl) ((x_t _).trans (at_int hx.1 (by rw [h.bl _ hz.1]; exact hx.2)))
  exact ret_v (b1 (sh z) (sum_map' _ _ μ))
/-! ### the first best -/
abbrev B_fb : DS := sIf (dOr (dTest (dBin (pyIs false) (dVar 1) (dC .none))) (dTest (dBin pyGt (dCall F__law_worth_of (aCons (dVar 0) (aCons (dVar 2) aNil))) (dCall F__law_worth_of (aCons (dVar 0) (aCons (dVar 1) aNil)))))) (sAsg 1 (xV (dVar 2))) sNext
def encO : Option (List Int) → D
  | none => .none
  | some a => iT a
theorem m_first_best (h : RK r K) (μ : Mu) : F__law_first_best [rT r] μ = .ok (iT (win r K)) μ := by
  refine fn_ret (show D__law_first_best [some (.v (rT r)), none, none] μ = _ from ?_)
  obtain ⟨hb, hf⟩ := bestP_is r (everyN r) K
  obtain ⟨sd', h1, x, rfl, -⟩ := for_fold (μ := μ) (tgt := gN 2) (fb := B_fb) iT (fun (b : Option (Int × List Int)) sd => ∃ x, sd = [some (.v (rT r)), some (.v (encO (b.map (·.2)))), x] ∧ ∀ m a, b = some (m, a) → Ent r K a ∧ tot r a = m) (bst (tot r)) (xs := allA r.length (everyN r) K) (fun a ha b sd ⟨x, q, hb⟩ => by
    subst q
    have e := ent_of ha
    match b, hb with
    | none, hb =>
      refine ⟨_, _, rfl, if_t (or_t (tb (f := pyIs false) (a := .none) (b := .none) (x := true) (vr rfl) rfl rfl)) (asg_v (vr rfl)), some (.v (iT a)), rfl, fun m a' q => ?_⟩
      cases q
      exact ⟨e, rfl⟩
    | some (m, a0), hb =>
      obtain ⟨e0, t0⟩ := hb m a0 rfl
      have t := or_r (ft := dTest (dBin (pyIs false) (dVar 1) (dC .none))) (fu := dTest (dBin pyGt (dCall F__law_worth_of (aCons (dVar 0) (aCons (dVar 2) aNil))) (dCall F__law_worth_of (aCons (dVar 0) (aCons (dVar 1) aNil))))) (sd := [some (.v (rT r)), some (.v (iT a0)), some (.v (iT a))]) (μ := μ) (tb (f := pyIs false) (a := iT a0) (b := .none) (x := false) (vr rfl) rfl rfl) (gt_b (c2 (vr rfl) (vr rfl) (m_worth_of h e μ)) (c2 (vr rfl) (vr rfl) (m_worth_of h e0 μ)))
      rw [t0] at t
      by_cases c : m < tot r a
      · rw [decide_eq_true c] at t
        refine ⟨_, _, rfl, if_t t (asg_v (vr rfl)), some (.v (iT a)), ?_, fun m' a' q => ?_⟩
        · rw [show bst (tot r) (some (m, a0)) a = some (tot r a, a) from if_pos c]
          rfl
        · rw [show bst (tot r) (some (m, a0)) a = some (tot r a, a) from if_pos c] at q
          cases q
          exact ⟨e, rfl⟩
      · rw [decide_eq_false c] at t
        refine ⟨_, _, rfl, if_f t (e_next (μ := μ)), some (.v (iT a)), ?_, fun m' a' q => ?_⟩
        · rw [show bst (tot r) (some (m, a0)) a = some (m, a0) from if_neg c]
          rfl
        · rw [show bst (tot r) (some (m, a0)) a = some (m, a0) from if_neg c] at q
          cases q
          exact ⟨e0, t0⟩) (b := none) (sd := [some (.v (rT r)), some (.v .none), none]) ⟨none, rfl, fun m a q => by cases q⟩
  rw [hf] at h1
  exact seq_next (asg_v (d := .none) rfl) (seq_next (for_s (iA (c1 (vr rfl) (h.shares μ))) h1) (ret_v (vr rfl)))
/-! ### best totals of groups -/
def usesB (G : List Nat) (a : List Int) : Bool := (List.range a.length).all fun i => !(decide (0 < a.getD i 0) && !decide (i ∈ G))
theorem rawA_off {n : Nat} {G : List Nat} {i : Nat} (hi : i ∉ G) : ∀ (k : Nat), ∀ a ∈ rawA n G k, a.getD i 0 = 0
  | 0, a, h => by
    have e : a = List.replicate n 0 := by simpa [rawA] using h
    subst e
    rw [List.getD_eq_getElem?_getD, List.getElem?_replicate]
    split <;> rfl
  | k + 1, a, h => by
    unfold rawA at h
    rcases List.mem_append.mp h with h | h
    · exact rawA_off hi k a h
    · obtain ⟨b, hb, h⟩ := List.mem_flatMap.mp h
      obtain ⟨g, hg, rfl⟩ := List.mem_map.mp h
      have hne : g ≠ i := fun e => hi (e ▸ hg)
      unfold addAt
      rw [List.getD_eq_getElem?_getD, List.getElem?_set_ne hne, ← List.getD_eq_getElem?_getD]
      exact rawA_off hi k b hb
theorem rawA_cut {n : Nat} {G0 : List Nat} {k : Nat} {a : List Int} (ha : a ∈ rawA n G0 k) : ∀ l : List Nat, (∀ i ∈ l, a.getD i 0 = 0) → a ∈ rawA n (G0.filter fun g => !decide (g ∈ l)) k
  | [], _ => by
    have : (G0.filter fun g => !decide (g ∈ ([] : List Nat))) = G0 := List.filter_eq_self.mpr fun g _ => by simp
    rw [this]
    exact ha
  | i :: l, hz => by
    have ih := rawA_cut ha l fun j hj => hz j (List.mem_cons_of_mem _ hj)
    have z := rawA_drop (G' := G0.filter fun g => !decide (g ∈ i :: l)) i (fun g hg hne => by
      obtain ⟨h1, h2⟩ := List.mem_filter.mp hg
      refine List.mem_filter.mpr ⟨h1, ?_⟩
      simp only [List.mem_cons, Bool.not_eq_true', decide_eq_false_iff_not, not_or] at h2 ⊢
      exact ⟨hne, h2⟩) k a ih
    have e : a.set i 0 = a := by
      have hz := hz i List.mem_cons_self
      apply List.ext_getElem?
      intro j
      by_cases hj : i = j
      · subst hj
        by_cases hl : i < a.length
        · rw [List.getElem?_set_self hl, getD_of hl, hz]
        · rw [List.getElem?_eq_none (by simp; omega), List.getElem?_eq_none (by omega)]
      · rw [List.getElem?_set_ne hj]
    rw [e] at z
    exact z
/-- the allotments of a group, among those of all -/
theorem rawA_uses {n : Nat} {G : List Nat} (hG : ∀ g ∈ G, g < n) {k : Nat} {a : List Int} : a ∈ rawA n G k ↔ a ∈ rawA n (List.range n) k ∧ usesB G a = true := by
  constructor
  · intro h
    refine ⟨rawA_mono (fun g hg => List.mem_range.mpr (hG g hg)) k a h, List.all_eq_true.mpr fun i hi => ?_⟩
    by_cases hg : i ∈ G
    · simp [hg]
    · rw [rawA_off hg k a h]
      simp
  · rintro ⟨h, hu⟩
    have hl := rawA_mem k a h
    have z := rawA_cut h ((List.range n).filter fun i => !decide (i ∈ G)) fun i hi => by
      obtain ⟨h1, h2⟩ := List.mem_filter.mp hi
      have h1 := List.mem_range.mp h1
      have hu := List.all_eq_true.mp hu i (List.mem_range.mpr (by omega))
      have hne : i ∉ G := by simpa using h2
      have hx := rawA_ent k a h (a.getD i 0) (getD_mem (by omega))
      have : ¬ 0 < a.getD i 0 := by simpa [hne] using hu
      omega
    refine rawA_mono (fun g hg => ?_) k a z
    obtain ⟨h1, h2⟩ := List.mem_filter.mp hg
    by_cases c : g ∈ G
    · exact c
    · have : g ∈ (List.range n).filter fun i => !decide (i ∈ G) := List.mem_filter.mpr ⟨h1, by simpa using c⟩
      simp [this] at h2
abbrev IM : DA := dLc (iEn (dVar 3)) (g2 4 5) (dAnd (dTest (dBin pyGt (dVar 5) (dC (.int 0)))) (dTest (dBin pyNotIn (dVar 4) (dVar 1)))) (dC (.int 1)) [4, 5]
abbrev B_mf : DS := sIf (dTest (dBin pyEq (dShare IM) (dShare (dLst aNil)))) (sAsg 2 (xV (dCB pyMax (aCons (dVar 2) (aCons (dCall F__law_worth_of (aCons (dVar 0) (aCons (dVar 3) aNil))) aNil))))) sNext
/-- a group, as a list or as a tuple -/
structure GD (G : List Nat) (d : D) : Prop where
  nin : ∀ i : Nat, pyNotIn (nD i) d = some (.bool (!decide (i ∈ G)))
theorem gd_list (G : List Nat) : GD G (.list (G.map nD)) := ⟨fun i => p_notIn i G⟩
theorem gd_tup (G : List Nat) : GD G (gT G) := ⟨fun i => by
  have hf : (G.map nD).all flatD = true := List.all_eq_true.mpr fun d hd => by
    obtain ⟨j, _, rfl⟩ := List.mem_map.mp hd
    rfl
  have e : pyIn0 (nD i) (gT G) = some (decide (i ∈ G)) := by
    show (if flatD (nD i) = true ∧ (G.map nD).all flatD = true then some ((G.map nD).any fun z => PyData.eqv z (nD i)) else none) = _
    rw [if_pos ⟨rfl, hf⟩, any_nD]
  unfold pyNotIn
  rw [e]
  rfl⟩
theorem im_ok {G : List Nat} {d : D} (hd : GD G d) (a : List Int) (ha : a.length ≤ 100) (s0 s2 s4 s5 : Option Sl) (μ : Mu) : dShare IM [s0, some (.v d), s2, some (.v (iT a)), s4, s5] μ = .ok (iL (((List.range a.length).filter fun i => decide (0 < a.getD i 0) && !decide (i ∈ G)).map fun _ => 1)) μ := by
  have z : IM [s0, some (.v d), s2, some (.v (iT a)), s4, s5] μ = .ok (((List.range a.length).filter fun i => decide (0 < a.getD i 0) && !decide (i ∈ G)).map fun _ => .int 1) μ := by
    refine lcE (fun i => .tuple [nD i, .int (a.getD i 0)]) (fun i => decide (0 < a.getD i 0) && !decide (i ∈ G)) (fun _ => .int 1) ?_ (by rw [List.length_range]; omega) fun i hi => ⟨_, rfl, ?_, fun _ => rfl⟩
    · simp only [e_iEn, e_var, List.getElem?_cons_succ, List.getElem?_cons_zero, Res.bind_ok, s_t, lift_some, enum_ints]
    · cases c : decide (0 < a.getD i 0) with
      | false => exact and_f ((gt_b (x := a.getD i 0) (y := 0) rfl rfl).trans (by rw [c]))
      | true => exact and_r ((gt_b (x := a.getD i 0) (y := 0) rfl rfl).trans (by rw [c])) (tb (vr rfl) (vr rfl) (hd.nin i))
  rw [sh z]
  show Res.ok (PyData.list _) μ = Res.ok (PyData.list _) μ
  rw [List.map_map]
  rfl
theorem uses_nil (G : List Nat) (a : List Int) : usesB G a = decide (((List.range a.length).filter fun i => decide (0 < a.getD i 0) && !decide (i ∈ G)) = []) := by
  unfold usesB
  rw [Bool.eq_iff_iff, decide_eq_true_iff, List.all_eq_true, List.filter_eq_nil_iff]
  constructor
  · intro h i hi z
    have := h i hi
    rw [z] at this
    cases this
  · intro h i hi
    rw [Bool.eq_false_iff.mpr (h i hi)]
    rfl
def mostF (r : List (List Int)) (G : List Nat) (A : List (List Int)) (b : Int) : Int := A.foldl (fun b a => if usesB G a = true then max b (tot r a) else b) b
theorem mostF_is (r : List (List Int)) (G : List Nat) : ∀ (A : List (List Int)) (b : Int), b ≤ mostF r G A b ∧ (∀ a ∈ A, usesB G a = true → tot r a ≤ mostF r G A b) ∧ (mostF r G A b = b ∨ ∃ a ∈ A, usesB G a = true ∧ tot r a = mostF r G A b)
  | [], b => ⟨Int.le_refl _, fun a ha => by simp at ha, .inl rfl⟩
  | x :: A, b => by
    have e : mostF r G (x :: A) b = mostF r G A (if usesB G x = true then max b (tot r x) else b) := rfl
    obtain ⟨h1, h2, h3⟩ := mostF_is r G A (if usesB G x = true then max b (tot r x) else b)
    rw [e]
    by_cases c : usesB G x = true
    · rw [if_pos c] at h1 h2 h3 ⊢
      refine ⟨by omega, fun a ha hu => ?_, ?_⟩
      · rcases List.mem_cons.mp ha with rfl | ha
        · omega
        · exact h2 a ha hu
      · rcases h3 with h3 | ⟨a, ha, hu, h3⟩
        · by_cases c2 : b ≤ tot r x
          · exact .inr ⟨x, List.mem_cons_self, c, by omega⟩
          · exact .inl (by omega)
        · exact .inr ⟨a, List.mem_cons_of_mem _ ha, hu, h3⟩
    · rw [if_neg c] at h1 h2 h3 ⊢
      refine ⟨h1, fun a ha hu => ?_, ?_⟩
      · rcases List.mem_cons.mp ha with rfl | ha
        · exact absurd hu c
        · exact h2 a ha hu
      · rcases h3 with h3 | ⟨a, ha, hu, h3⟩
        · exact .inl h3
        · exact .inr ⟨a, List.mem_cons_of_mem _ ha, hu, h3⟩
theorem mostF_W (h : RK r K) {G : List Nat} (hG : ∀ g ∈ G, g < r.length) : mostF r G (allA r.length (everyN r) K) 0 = W r K G := by
  obtain ⟨h1, h2, h3⟩ := mostF_is r G (allA r.length (everyN r) K) 0
  obtain ⟨w1, w2⟩ := W_at r K G
  obtain ⟨u1, u2⟩ := (rawA_uses hG).mp w1
  have le := h2 _ (mem_allA.mpr u1) u2
  have w0 := W_nonneg h G
  rcases h3 with h3 | ⟨a, ha, hu, h3⟩
  · omega
  · have := W_ge (r := r) (K := K) ((rawA_uses hG).mpr ⟨allA_mem ha, hu⟩)
    omega
theorem m_most_for (h : RK r K) {G : List Nat} (hG : ∀ g ∈ G, g < r.length) {d : D} (hd : GD G d) (μ : Mu) : F__law_most_for [rT r, d] μ = .ok (.int (W r K G)) μ := by
  refine fn_ret (show D__law_most_for [some (.v (rT r)), some (.v d), none, none, none, none] μ = _ from ?_)
  have hr := h.len
  obtain ⟨sd', h1, x3, x4, x5, rfl⟩ := for_fold (μ := μ) (tgt := gN 3) (fb := B_mf) iT (fun (b : Int) sd => ∃ x3 x4 x5, sd = [some (.v (rT r)), some (.v d), some (.v (.int b)), x3, x4, x5]) (fun b a => if usesB G a = true then max b (tot r a) else b) (xs := allA r.length (everyN r) K) (fun a ha b sd ⟨x3, x4, x5, q⟩ => by
    subst q
    have e := ent_of ha
    have pe := pe_iL (((List.range a.length).filter fun i => decide (0 < a.getD i 0) && !decide (i ∈ G)).map fun _ => 1) []
    have pe : pyEq (iL (((List.range a.length).filter fun i => decide (0 < a.getD i 0) && !decide (i ∈ G)).map fun _ => 1)) (.list []) = some (.bool (usesB G a)) := by
      rw [uses_nil, show decide (((List.range a.length).filter fun i => decide (0 < a.getD i 0) && !decide (i ∈ G)) = []) = decide ((((List.range a.length).filter fun i => decide (0 < a.getD i 0) && !decide (i ∈ G)).map fun _ => (1 : Int)) = []) by simp only [List.map_eq_nil_iff]]
      exact pe
    have t := tb (f := pyEq) (sd := [some (.v (rT r)), some (.v d), some (.v (.int b)), some (.v (iT a)), x4, x5]) (im_ok hd a (by rw [e.len]; omega) _ _ _ _ μ) (lst_nil μ _) pe
    by_cases c : usesB G a = true
    · rw [c] at t
      refine ⟨_, _, rfl, if_t t (asg_v (mx2 (x := b) (vr rfl) (c2 (vr rfl) (vr rfl) (m_worth_of h e μ)))), some (.v (iT a)), x4, x5, ?_⟩
      rw [if_pos c]
      rfl
    · rw [Bool.eq_false_iff.mpr c] at t
      refine ⟨_, _, rfl, if_f t (e_next (μ := μ)), some (.v (iT a)), x4, x5, ?_⟩
      rw [if_neg c]
      rfl) (b := 0) (sd := [some (.v (rT r)), some (.v d), some (.v (.int 0)), none, none, none]) ⟨_, _, _, rfl⟩
  have e : (allA r.length (everyN r) K).foldl (fun b a => if usesB G a = true then max b (tot r a) else b) 0 = W r K G := mostF_W h hG
  rw [e] at h1
  exact seq_next (asg_v (d := .int 0) rfl) (seq_next (for_s (iA (c1 (vr rfl) (h.shares μ))) h1) (ret_v (vr rfl)))
end
end OL

set_option maxHeartbeats 4000000
/-! OLMir18: the law's own payments. -/
namespace OL
open PySem DL
section
variable {r : List (List Int)} {K : Nat}
theorem sum_others (f : Nat → Int) : ∀ (n i : Nat), i < n → ((others n i).map f).sum = ((List.range n).map f).sum - f i
  | n + 1, i, hi => by
    unfold others
    rw [List.range_succ, List.filter_append, List.map_append, List.sum_append, List.map_append, List.sum_append]
    by_cases c : n = i
    · subst c
      have e : (List.range n).filter (fun j => !decide (j = n)) = List.range n := List.filter_eq_self.mpr fun j hj => by
        have := List.mem_range.mp hj
        have : ¬ j = n := by omega
        simp [this]
      rw [e]
      simp
    · have ih := sum_others f n i (by omega)
      unfold others at ih
      rw [ih]
      simp [c]
      omega
theorem Ent.win (h : RK r K) : Ent r K (win r K) := ⟨bestP_len, bestP_ent⟩
theorem others_val (h : RK r K) {i : Nat} (hi : i < r.length) : ((others r.length i).map (val r (win r K))).sum = top r K - val r (win r K) i := by
  rw [sum_others _ _ _ hi, ← tot_sum r (win r K) win_len, tot_win]
theorem others_len (n i : Nat) : (others n i).length ≤ n := by
  have := List.length_filter_le (fun j => !decide (j = i)) (List.range n)
  rw [List.length_range] at this
  exact this
abbrev DPs : DE := dCB pySum (aCons (dShare (dLc (iAny (dVar 4)) (gN 5) dYes (dBin pyIx (dBin pyIx (dVar 0) (dVar 5)) (dBin pyIx (dVar 1) (dVar 5))) [5])) aNil)
abbrev B_pay : DS := sSeq (sAsg 4 (xO (dLc (iRg1 (dCB DL.pyLen (aCons (dVar 0) aNil))) (gN 5) (dTest (dBin pyNe (dVar 5) (dVar 3))) (dVar 5) [5])))
    (sFreeze 4 (sApp 2 (dBin pySub (dCall F__law_most_for (aCons (dVar 0) (aCons (dVar 4) aNil))) DPs)))
theorem ne_nD (i j : Nat) : pyNe (nD i) (nD j) = some (.bool (!decide (i = j))) := by
  rw [p_ne]
  congr 3
  exact decide_eq_decide.mpr (by omega)
theorem m_pays (h : RK r K) (μ : Mu) : F__law_pays [rT r] μ = .ok (iL (pays r K)) μ := by
  refine fn_ret (show D__law_pays [some (.v (rT r)), none, none, none, none, none] μ = _ from ?_)
  have hr := h.len
  have len (sd : Slots) (h0 : sd[0]? = some (some (.v (rT r)))) : dCB DL.pyLen (aCons (dVar 0) aNil) sd μ = .ok (nD r.length) μ := b1 (vr h0) (by rw [l_t, List.length_map])
  obtain ⟨sd', h1, x3, x4, x5, rfl⟩ := for_flat (μ := μ) (tgt := gN 3) (fb := B_pay) 100 nD (fun L sd => ∃ x3 x4 x5, sd = [some (.v (rT r)), some (.v (iT (win r K))), some (.own L), x3, x4, x5]) (fun i => [.int (pay r K i)]) (xs := everyN r) (fun i hi L sd ⟨x3, x4, x5, q⟩ hl => by
    subst q
    have hi := List.mem_range.mp hi
    have oth : dLc (iRg1 (dCB DL.pyLen (aCons (dVar 0) aNil))) (gN 5) (dTest (dBin pyNe (dVar 5) (dVar 3))) (dVar 5) [5] [some (.v (rT r)), some (.v (iT (win r K))), some (.own L), some (.v (nD i)), x4, x5] μ = .ok ((others r.length i).map nD) μ :=
      lcE nD (fun j => !decide (j = i)) nD (iR (len _ rfl) (by omega)) (by rw [List.length_range]; omega) fun j hj => ⟨_, rfl, tb (vr rfl) (vr rfl) (ne_nD j i), fun _ => vr rfl⟩
    have ol := others_len r.length i
    have olt : ∀ g ∈ others r.length i, g < r.length := others_lt
    have sm : DPs [some (.v (rT r)), some (.v (iT (win r K))), some (.own L), some (.v (nD i)), some (.v (.list ((others r.length i).map nD))), x5] μ = .ok (.int (top r K - val r (win r K) i)) μ := by
      rw [← others_val h hi]
      refine b1 (sh (lcM nD (fun j => .int (val r (win r K) j)) (iA (vr rfl)) (by omega) fun j hj => ⟨_, rfl, ?_⟩)) (sum_map' _ _ μ)
      have hj := olt j hj
      have e1 : L2.atI ((win r K).map PyData.int) (j : Int) = some (.int ((win r K).getD j 0)) := by
        rw [at_map, getD_of (by rw [win_len]; exact hj)]
        rfl
      exact bn (bn (vr rfl) (vr rfl) ((x_t _).trans (at_row hj))) (bn (vr rfl) (vr rfl) ((x_t _).trans e1)) ((x_t _).trans (val_at h bestP_len bestP_ent hj))
    exact ⟨_, _, rfl, seq_next (asg_o oth) (freeze_next rfl (app_n rfl (sub2 (c2 (vr rfl) (vr rfl) (m_most_for h olt (gd_list _) μ)) sm) (by simp only [List.length_cons, List.length_nil] at hl; omega))), _, _, _, rfl⟩) (L := []) (sd := [some (.v (rT r)), some (.v (iT (win r K))), some (.own []), none, none, none]) ⟨_, _, _, rfl⟩ (by
      rw [flat_len 1 _ _ fun _ _ => rfl, List.length_range]
      simp only [List.length_nil]
      omega)
  have e : ([] : List D) ++ (everyN r).flatMap (fun i => [PyData.int (pay r K i)]) = (pays r K).map .int := by
    rw [List.nil_append]
    unfold pays
    rw [List.map_map]
    induction everyN r with
    | nil => rfl
    | cons a l ih => rw [List.flatMap_cons, ih]; rfl
  rw [e] at h1
  refine seq_next (sd' := [some (.v (rT r)), some (.v (iT (win r K))), some (.own []), none, none, none]) (μ' := μ) ?_ (seq_next (for_s (iR (len _ rfl) (by omega)) h1) (freeze_next rfl (ret_v (vr rfl))))
  rw [e_par, e_xV, c1 (vr rfl) (m_first_best h μ)]
  rfl
end
end OL

set_option maxHeartbeats 4000000
/-! OLMir19: what the checks say of any value. -/
namespace OL
open PySem DL
/-! ### whole numbers of a range -/
def okD : D → Bool
  | .dict _ => false
  | _ => true
def isintD (d : D) (lo hi : Int) : Bool := match d with
  | .int i => decide (lo ≤ i ∧ i ≤ hi)
  | _ => false
theorem m_isint {d : D} (hd : okD d = true) (lo hi : Int) (μ : Mu) : F_is_integer [d, .int lo, .int hi] μ = .ok (.bool (isintD d lo hi)) μ := by
  cases d with
  | int i => exact m_is_integer i lo hi μ
  | dict x => cases hd
  | bool b => exact fn_ret (show D_is_integer [some (.v (.bool b)), some (.v (.int lo)), some (.v (.int hi))] μ = _ from ret_v (andV_r rfl (andV_f (notV_b (x := true) rfl))))
  | _ => exact fn_ret (show D_is_integer [some (.v _), some (.v (.int lo)), some (.v (.int hi))] μ = _ from ret_v (andV_f rfl))
/-- the number that it is -/
def numD : D → Int
  | .int i => i
  | _ => 0
theorem isint_num {d : D} {lo hi : Int} (h : isintD d lo hi = true) : d = .int (numD d) ∧ lo ≤ numD d ∧ numD d ≤ hi := by
  cases d with
  | int i => exact ⟨rfl, of_decide_eq_true h⟩
  | _ => cases h
theorem allint_num {lo hi : Int} : ∀ {ds : List D}, ds.all (fun x => isintD x lo hi) = true → ds = (ds.map numD).map .int
  | [], _ => rfl
  | d :: ds, h => by
    rw [List.all_cons, Bool.and_eq_true] at h
    rw [List.map_cons, List.map_cons, ← allint_num h.2, ← (isint_num h.1).1]
def isTupD : D → Bool
  | .tuple _ => true
  | _ => false
theorem isiT (d : D) (h : okD d = true) : isiB "tuple" d = some (.bool (isTupD d)) := by
  cases d <;> first | rfl | cases h
/-! ### bids -/
def ok1 : D → Bool
  | .dict _ => false
  | .tuple ds => ds.all okD
  | _ => true
theorem ok1_okD {d : D} (h : ok1 d = true) : okD d = true := by
  cases d <;> first | rfl | cases h
def bidD (n : Nat) : D → Bool
  | .tuple ds => decide (ds.length = n) && (ds.all (fun x => isintD x 0 9) && bidB n (ds.map numD))
  | _ => false
abbrev I_bids : DA := dLc (iAny (dVar 0)) (gN 2) dYes (dCall F_is_integer (aCons (dVar 2) (aCons (dC (.int 0)) (aCons (dC (.int 9)) aNil)))) [2]
theorem m_bidsD {n : Nat} (hn : n = 2 ∨ n = 4 ∨ n = 8) {d : D} (hd : ok1 d = true) (μ : Mu) : F_bids_for [d, nD n] μ = .ok (.bool (bidD n d)) μ := by
  have nott (h : isTupD d = false) : F_bids_for [d, nD n] μ = .ok (.bool false) μ := by
    refine fn_ret (show D_bids_for [some (.v d), some (.v (nD n)), none] μ = _ from seq_ret (if_t (or_t (nt (x := false) (te ?_))) (ret_v rfl)))
    rw [e_isi, vr rfl, Res.bind_ok, isiT d (ok1_okD hd), h]
    rfl
  cases d with
  | tuple ds =>
    by_cases c1 : ds.length = n
    · by_cases c2 : ds.all (fun x => isintD x 0 9) = true
      · have e := allint_num c2
        have z := m_bids_for hn (ds.map numD) (by rw [List.length_map]; omega) μ
        rw [show iT (ds.map numD) = .tuple ds from congrArg PyData.tuple e.symm] at z
        have eb : bidD n (.tuple ds) = bidB n (ds.map numD) := by
          show (decide (ds.length = n) && (ds.all (fun x => isintD x 0 9) && bidB n (ds.map numD))) = _
          rw [decide_eq_true c1, c2]
          rfl
        rw [eb]
        exact z
      · have eb : bidD n (.tuple ds) = false := by
          show (decide (ds.length = n) && (ds.all (fun x => isintD x 0 9) && bidB n (ds.map numD))) = _
          rw [Bool.eq_false_iff.mpr c2, Bool.false_and, Bool.and_false]
        rw [eb]
        have z : I_bids [some (.v (.tuple ds)), some (.v (nD n)), none] μ = .ok (ds.map fun x => .bool (isintD x 0 9)) μ := lcM (fun x => x) (fun x => .bool (isintD x 0 9)) (iAt ((vr rfl).trans (by rw [List.map_id'']; intro x; rfl))) (by omega) fun x hx => ⟨_, rfl, c3 (vr rfl) rfl rfl (m_isint (List.all_eq_true.mp hd x hx) 0 9 μ)⟩
        have al := all_map' (fun x => isintD x 0 9) ds μ
        rw [Bool.eq_false_iff.mpr c2] at al
        refine fn_ret (show D_bids_for [some (.v (.tuple ds)), some (.v (nD n)), none] μ = _ from seq_ret (if_t (or_r (nt (x := true) (te rfl)) (or_r (x := true) (tb (x := false) (b1 (vr rfl) (l_t ds μ)) (vr rfl) ?_) (nt (x := false) (te (b1 (sh z) al))))) (ret_v rfl)))
        rw [c1, ne_nD, decide_eq_true rfl]
        rfl
    · have eb : bidD n (.tuple ds) = false := by
        show (decide (ds.length = n) && (ds.all (fun x => isintD x 0 9) && bidB n (ds.map numD))) = _
        rw [decide_eq_false c1]
        rfl
      rw [eb]
      refine fn_ret (show D_bids_for [some (.v (.tuple ds)), some (.v (nD n)), none] μ = _ from seq_ret (if_t (or_r (nt (x := true) (te rfl)) (or_t (tb (b1 (vr rfl) (l_t ds μ)) (vr rfl) ?_))) (ret_v rfl)))
      rw [ne_nD, decide_eq_false c1]
      rfl
  | dict x => cases hd
  | _ => exact nott rfl
theorem bidD_iT {n : Nat} (b : List Int) : bidD n (iT b) = bidB n b := by
  show (decide ((b.map PyData.int).length = n) && ((b.map PyData.int).all (fun x => isintD x 0 9) && bidB n ((b.map PyData.int).map numD))) = _
  have e1 : (b.map PyData.int).map numD = b := by
    rw [List.map_map]
    exact List.map_id'' (fun _ => rfl) b
  have e2 : (b.map PyData.int).all (fun x => isintD x 0 9) = b.all fun x => decide (0 ≤ x ∧ x ≤ 9) := by
    rw [List.all_map]
    rfl
  rw [e1, e2, List.length_map]
  unfold bidB
  cases decide (b.length = n) <;> cases (b.all fun x => decide (0 ≤ x ∧ x ≤ 9)) <;> simp
/-! ### rooms -/
def ok2 : D → Bool
  | .dict _ => false
  | .tuple ds => ds.all ok1
  | _ => true
theorem ok2_okD {d : D} (h : ok2 d = true) : okD d = true := by
  cases d <;> first | rfl | cases h
def roomD : D → Bool
  | .tuple ds => decide (1 ≤ ds.length ∧ ds.length ≤ 4) && (ds.all (bidD 2) || (ds.all (bidD 4) || ds.all (bidD 8)))
  | _ => false
abbrev T_room : DT := dTest (dCB pyAll (aCons (dShare (dLc (iAny (dVar 0)) (gN 2) dYes (dCall F_bids_for (aCons (dVar 2) (aCons (dVar 1) aNil))) [2])) aNil))
theorem m_roomD {d : D} (hd : ok2 d = true) (μ : Mu) : F_is_room [d] μ = .ok (.bool (roomD d)) μ := by
  have nott (h : isTupD d = false) : F_is_room [d] μ = .ok (.bool false) μ := by
    refine fn_ret (show D_is_room [some (.v d), none, none] μ = _ from seq_ret (if_t (or_t (nt (x := false) (te ?_))) (ret_v rfl)))
    rw [e_isi, vr rfl, Res.bind_ok, isiT d (ok2_okD hd), h]
    rfl
  have chain (k : Nat) (sd : Slots) (fe : DE) (he : fe sd μ = .ok (nD k) μ) : dTest (dChain (dC (.int 1)) fe (dC k_MOST)) sd μ = .ok (decide (1 ≤ k ∧ k ≤ 4)) μ := by
    simp only [e_test, e_chain, e_c, he, Res.bind_ok, p_le, lift_some, a_b]
    by_cases c1 : 1 ≤ k
    · have c1' : (1 : Int) ≤ (k : Int) := by omega
      by_cases c2 : k ≤ 4
      · have c2' : (k : Int) ≤ 4 := by omega
        simp [c1, c1', c2, c2']
      · have c2' : ¬ (k : Int) ≤ 4 := by omega
        simp [c1, c1', c2, c2']
    · have c1' : ¬ (1 : Int) ≤ (k : Int) := by omega
      simp [c1, c1']
  cases d with
  | tuple ds =>
    have t0 := chain ds.length [some (.v (.tuple ds)), none, none] (dCB DL.pyLen (aCons (dVar 0) aNil)) (b1 (vr rfl) (l_t ds μ))
    by_cases c : 1 ≤ ds.length ∧ ds.length ≤ 4
    · rw [decide_eq_true c] at t0
      have lp := for_encC (μ := μ) (tgt := gN 1) (fb := sIf T_room (sRet (dC (.bool true))) sNext) nD (fun sd => ∃ x y, sd = [some (.v (.tuple ds)), x, y]) (fun n => ds.all (bidD n)) (.bool true) (xs := [2, 4, 8]) (fun n hn sd ⟨x, y, es⟩ => ⟨_, rfl, by
        subst es
        have hn : n = 2 ∨ n = 4 ∨ n = 8 := by simpa using hn
        have z : dLc (iAny (dVar 0)) (gN 2) dYes (dCall F_bids_for (aCons (dVar 2) (aCons (dVar 1) aNil))) [2] [some (.v (.tuple ds)), some (.v (nD n)), y] μ = .ok (ds.map fun b => .bool (bidD n b)) μ := lcM (fun x => x) (fun b => .bool (bidD n b)) (iAt ((vr rfl).trans (by rw [List.map_id'']; intro x; rfl))) (by omega) fun b hb => ⟨_, rfl, c2 (vr rfl) (vr rfl) (m_bidsD hn (List.all_eq_true.mp hd b hb) μ)⟩
        have t : T_room [some (.v (.tuple ds)), some (.v (nD n)), y] μ = .ok (ds.all (bidD n)) μ := te (b1 (sh z) (all_map' _ _ μ))
        cases cc : ds.all (bidD n) with
        | true =>
          rw [cc] at t
          exact if_t t rfl
        | false =>
          rw [cc] at t
          exact ⟨_, if_f t rfl, _, _, rfl⟩⟩) (sd := [some (.v (.tuple ds)), none, none]) ⟨_, _, rfl⟩
      have ea : [2, 4, 8].any (fun n => ds.all (bidD n)) = (ds.all (bidD 2) || (ds.all (bidD 4) || ds.all (bidD 8))) := by simp
      rw [ea] at lp
      have eb : roomD (.tuple ds) = (ds.all (bidD 2) || (ds.all (bidD 4) || ds.all (bidD 8))) := by
        show (decide (1 ≤ ds.length ∧ ds.length ≤ 4) && _) = _
        rw [decide_eq_true c, Bool.true_and]
      rw [eb]
      refine fn_ret (show D_is_room [some (.v (.tuple ds)), none, none] μ = _ from seq_next (if_f (or_r (nt (x := true) (te rfl)) (nt t0)) (e_next (μ := μ))) ?_)
      cases q : (ds.all (bidD 2) || (ds.all (bidD 4) || ds.all (bidD 8))) with
      | true =>
        rw [q, if_pos rfl] at lp
        exact seq_ret (for_s (ds := [2, 4, 8].map nD) rfl lp)
      | false =>
        rw [q, if_neg Bool.false_ne_true] at lp
        obtain ⟨sd', h1, _⟩ := lp
        exact seq_next (for_s (ds := [2, 4, 8].map nD) rfl h1) rfl
    · rw [decide_eq_false c] at t0
      have eb : roomD (.tuple ds) = false := by
        show (decide (1 ≤ ds.length ∧ ds.length ≤ 4) && _) = _
        rw [decide_eq_false c, Bool.false_and]
      rw [eb]
      exact fn_ret (show D_is_room [some (.v (.tuple ds)), none, none] μ = _ from seq_ret (if_t (or_r (nt (x := true) (te rfl)) (nt t0)) (ret_v rfl)))
  | dict x => cases hd
  | _ => exact nott rfl
theorem m_check_roomD {d : D} (hd : ok2 d = true) (hb : roomD d = false) (μ : Mu) : F_check_room [d] μ = .exc e_InvalidRoom μ := by
  refine fn_exc (show D_check_room [some (.v d)] μ = _ from if_t (nt (x := false) (te (c1 (vr rfl) ((m_roomD hd μ).trans (by rw [hb]))))) rfl)
section
variable {r : List (List Int)} {K : Nat}
/-! ### groups -/
def ascB (l : List Int) : Bool := (l.zip (l.drop 1)).all fun p => decide (p.1 < p.2)
def groupD (n : Nat) : D → Bool
  | .tuple ds => ds.all (fun x => isintD x 0 ((n : Int) - 1)) && ascB (ds.map numD)
  | _ => false
theorem m_group_bad {d : D} (hd : ok1 d = true) (hs : ∀ ds, d = .tuple ds → ds.length ≤ 1000) (hb : groupD r.length d = false) (μ : Mu) : F_check_group [rT r, d] μ = .exc e_InvalidGroup μ := by
  have nott (h : isTupD d = false) : F_check_group [rT r, d] μ = .exc e_InvalidGroup μ := by
    refine fn_exc (show D_check_group [some (.v (rT r)), some (.v d), none, none] μ = _ from seq_exc (if_t (or_t (nt (x := false) (te ?_))) rfl))
    rw [e_isi, vr rfl, Res.bind_ok, isiT d (ok1_okD hd), h]
    rfl
  cases d with
  | tuple ds =>
    have hs := hs ds rfl
    have z : dLc (iAny (dVar 1)) (gN 2) dYes (dCall F_is_integer (aCons (dVar 2) (aCons (dC (.int 0)) (aCons (dBin pySub (dCB DL.pyLen (aCons (dVar 0) aNil)) (dC (.int 1))) aNil)))) [2] [some (.v (rT r)), some (.v (.tuple ds)), none, none] μ = .ok (ds.map fun x => .bool (isintD x 0 ((r.length : Int) - 1))) μ :=
      lcM (fun x => x) (fun x => .bool (isintD x 0 ((r.length : Int) - 1))) (iAt ((vr rfl).trans (by rw [List.map_id'']; intro x; rfl))) (by omega) fun x hx => ⟨_, rfl, c3 (vr rfl) rfl (sub2 (x := (r.length : Int)) (y := 1) (b1 (vr rfl) ((l_t _ μ).trans (by rw [List.length_map]))) rfl) (m_isint (List.all_eq_true.mp hd x hx) 0 _ μ)⟩
    have t := te (b1 (sh z) (all_map' _ _ μ))
    by_cases c : ds.all (fun x => isintD x 0 ((r.length : Int) - 1)) = true
    · have hb2 : (ds.all (fun x => isintD x 0 ((r.length : Int) - 1)) && ascB (ds.map numD)) = false := hb
      rw [c, Bool.true_and] at hb2
      rw [c] at t
      have e := allint_num c
      clear hb
      generalize ds.map numD = l at hb2 e
      subst e
      have hz : zip2D (l.map .int) (cutD (l.map .int) (some 1) none) = (l.zip (l.drop 1)).map fun p => .tuple [.int p.1, .int p.2] := by
        rw [cut_one, ← List.map_drop, zip2_map]
      have z2 : dLc (iZ2 (dVar 1) (dSl (dVar 1) (oSome (dC (.int 1))) oNone)) (g2 2 3) dYes (dBin pyLt (dVar 2) (dVar 3)) [2, 3] [some (.v (rT r)), some (.v (iT l)), none, none] μ = .ok ((l.zip (l.drop 1)).map fun p => .bool (decide (p.1 < p.2))) μ := by
        refine lcM (fun p : Int × Int => PyData.tuple [.int p.1, .int p.2]) _ ?_ (by rw [List.length_zip]; rw [List.length_map] at hs; omega) fun p hp => ⟨_, rfl, bn (vr rfl) (vr rfl) (p_lt)⟩
        simp only [e_iZ2, e_sl, e_oSome, e_oNone, e_c, a_i, e_var, List.getElem?_cons_succ, List.getElem?_cons_zero, Res.bind_ok, lift_some, pySl, zip2Of, hz]
      have t2 := te (b1 (sh z2) (all_map' _ _ μ))
      have hb2 : ((l.zip (l.drop 1)).all fun p => decide (p.1 < p.2)) = false := hb2
      rw [hb2] at t2
      exact fn_exc (show D_check_group [some (.v (rT r)), some (.v (iT l)), none, none] μ = _ from seq_next (if_f (or_r (nt (x := true) (te rfl)) (nt t)) (e_next (μ := μ))) (if_t (nt t2) rfl))
    · rw [Bool.eq_false_iff.mpr c] at t
      exact fn_exc (show D_check_group [some (.v (rT r)), some (.v (.tuple ds)), none, none] μ = _ from seq_exc (if_t (or_r (nt (x := true) (te rfl)) (nt t)) rfl))
  | dict x => cases hd
  | _ => exact nott rfl
theorem m_best_total_bad (h : RK r K) {d : D} (hd : ok1 d = true) (hs : ∀ ds, d = .tuple ds → ds.length ≤ 1000) (hb : groupD r.length d = false) (μ : Mu) : F_best_total [rT r, d] μ = .exc e_InvalidGroup μ :=
  fn_exc (show D_best_total [some (.v (rT r)), some (.v d)] μ = _ from seq_next (drop_n (c1 (vr rfl) (m_check_room h.room μ))) (seq_exc (drop_exc (c2 (vr rfl) (vr rfl) (m_group_bad hd hs hb μ)))))
theorem m_objects_bad (h : RK r K) {d : D} (hd : ok1 d = true) (hs : ∀ ds, d = .tuple ds → ds.length ≤ 1000) (hb : groupD r.length d = false) (μ : Mu) : F_objects [rT r, d] μ = .exc e_InvalidGroup μ :=
  fn_exc (show D_objects [some (.v (rT r)), some (.v d)] μ = _ from seq_next (drop_n (c1 (vr rfl) (m_check_room h.room μ))) (seq_exc (drop_exc (c2 (vr rfl) (vr rfl) (m_group_bad hd hs hb μ)))))
/-! ### prices -/
def pricesD (k : Nat) : D → Bool
  | .tuple ds => decide (ds.length = k) && ds.all (fun x => isintD x 0 9)
  | _ => false
theorem m_prices_bad (h : RK r K) {d : D} (hd : ok1 d = true) (hb : pricesD K d = false) (μ : Mu) : F_do_part [rT r, d] μ = .exc e_InvalidPrices μ := by
  have hk := h.k3
  refine fn_exc (show D_do_part [some (.v (rT r)), some (.v d), none] μ = _ from seq_next (drop_n (c1 (vr rfl) (m_check_room h.room μ))) ?_)
  have nott (h : isTupD d = false) (s2 s3 : DS) (x : DT) : sSeq (sIf (dOr (dNot (dTest (dIsi "tuple" (dVar 1)))) x) (sRaise e_InvalidPrices) s2) s3 [some (.v (rT r)), some (.v d), none] μ = .exc e_InvalidPrices μ := by
    refine seq_exc (if_t (or_t (nt (x := false) (te ?_))) rfl)
    rw [e_isi, vr rfl, Res.bind_ok, isiT d (ok1_okD hd), h]
    rfl
  cases d with
  | tuple ds =>
    have tl := tb (f := pyNe) (sd := [some (.v (rT r)), some (.v (.tuple ds)), none]) (b1 (F := DL.pyLen) (vr (i := 1) rfl) (l_t ds μ)) (c1 (vr (i := 0) rfl) (m_count_things h μ)) (ne_nD ds.length K)
    by_cases c1 : ds.length = K
    · have hb : (decide (ds.length = K) && ds.all (fun x => isintD x 0 9)) = false := hb
      rw [decide_eq_true c1, Bool.true_and] at hb
      rw [decide_eq_true c1] at tl
      have z : dLc (iAny (dVar 1)) (gN 2) dYes (dCall F_is_integer (aCons (dVar 2) (aCons (dC (.int 0)) (aCons (dC (.int 9)) aNil)))) [2] [some (.v (rT r)), some (.v (.tuple ds)), none] μ = .ok (ds.map fun x => .bool (isintD x 0 9)) μ :=
        lcM (fun x => x) (fun x => .bool (isintD x 0 9)) (iAt ((vr rfl).trans (by rw [List.map_id'']; intro x; rfl))) (by omega) fun x hx => ⟨_, rfl, c3 (vr rfl) rfl rfl (m_isint (List.all_eq_true.mp hd x hx) 0 9 μ)⟩
      have t := te (b1 (sh z) (all_map' _ _ μ))
      rw [hb] at t
      exact seq_next (if_f (or_r (nt (x := true) (te rfl)) tl) (e_next (μ := μ))) (seq_exc (if_t (nt t) rfl))
    · rw [decide_eq_false c1] at tl
      exact seq_exc (if_t (or_r (nt (x := true) (te rfl)) tl) rfl)
  | dict x => cases hd
  | _ => exact nott rfl _ _ _
end
end OL

set_option maxHeartbeats 4000000
/-! OLMir20: small defs of the laws: pick, same truth, asking in a try; what the groups sum up to. -/
namespace OL
open PySem DL
theorem m_pickE (ns : List Int) (hn : ns.length ≤ 63) {α : Type} (en : α → D) {A : List α} (hA : A ≠ []) (hl : A.length ≤ 100000) {μ : Mu} {m : Nat} (hT : Town R μ m) (hm : m ≤ 9000) : ∃ x ∈ A, ∃ μ', F__law_pick [scrI ns, tok 0, .list (A.map en)] μ = .ok (en x) μ' ∧ Town R μ' (m + 1) := by
  have hp : 0 < A.length := by cases A with | nil => exact absurd rfl hA | cons a b => simp
  obtain ⟨v, μ', v1, v2, hv, hT'⟩ := m_draw ns hn (show (0 : Int) < (A.length : Int) by omega) hT (by omega)
  have hi : v.toNat < A.length := by omega
  have e1 : L2.atI (A.map en) v = some (en A[v.toNat]) := by
    have := at_nat (A.map en) v.toNat
    rw [show ((v.toNat : Nat) : Int) = v by omega] at this
    rw [this, List.getElem?_map, List.getElem?_eq_getElem hi]
    rfl
  exact ⟨A[v.toNat], List.getElem_mem hi, μ', fn_ret (show D__law_pick [some (.v (scrI ns)), some (.v (tok 0)), some (.v (.list (A.map en)))] μ = _ from ret_v (bn (vr rfl) (c3 (vr rfl) (vr rfl) (b1 (vr rfl) ((l_l _ μ).trans (by rw [List.length_map]))) hv) ((x_l _).trans e1))), hT'⟩
theorem m_same_truth (b c : Bool) (μ : Mu) : F__law_same_truth [.bool b, .bool c] μ = .ok (.bool (decide (b = c))) μ :=
  fn_ret (show D__law_same_truth [some (.v (.bool b)), some (.v (.bool c))] μ = _ from ret_v (andV_r rfl (bn (vr rfl) (vr rfl) (pe_b b c))))
theorem m_same_number (x y : Int) (μ : Mu) : F__law_same_number [.int x, .int y] μ = .ok (.bool (decide (x = y))) μ :=
  fn_ret (show D__law_same_number [some (.v (.int x)), some (.v (.int y))] μ = _ from ret_v (andV_r rfl (andV_r rfl (bn (vr rfl) (vr rfl) p_eq))))
theorem grp_bad1 {n : Nat} {x : D} {xs : List D} (h : isintD x 0 ((n : Int) - 1) = false) : groupD n (.tuple (x :: xs)) = false := by
  show ((isintD x 0 ((n : Int) - 1) && xs.all fun x => isintD x 0 ((n : Int) - 1)) && ascB ((x :: xs).map numD)) = false
  rw [h, Bool.false_and, Bool.false_and]
theorem grp_bad2 {n : Nat} {xs : List D} (h : ascB (xs.map numD) = false) : groupD n (.tuple xs) = false := by
  show ((xs.all fun x => isintD x 0 ((n : Int) - 1)) && ascB (xs.map numD)) = false
  rw [h, Bool.and_false]
/-! ### a try -/
theorem try_ok {s : DS} {sd : Slots} {μ μ' : Mu} {d : D} (h : s sd μ = .ok (.ret d) μ') : sTry s sd μ = .ok (.ret d) μ' := by rw [e_try, h]
theorem try_exc {s : DS} {sd : Slots} {μ μ' : Mu} {c : Nat} (h : s sd μ = .exc c μ') (h1 : 1 ≤ c ∧ c ≤ 10) : sTry s sd μ = .ok (.ret (whD c)) μ' := by
  rw [e_try, h]
  exact if_pos h1
theorem lay_wh (c : Nat) : Lay 1 (whD c) := Lay.tuple fun x hx => by
  have : x = .str "raised" ∨ x = .int ((c - 1 : Nat) : Int) := by simpa using hx
  rcases this with rfl | rfl
  · exact ⟨by rw [PyData.canLay0]; decide +kernel, by simp [PyData.depth]⟩
  · exact Lay.int _
theorem pe_refl {k : Nat} {xs : List D} (h : Lay k (.list xs)) (e : PyData.eqv (.list xs) (.list xs) = true) (hk : k ≤ 64 := by decide) : pyEq (.list xs) (.list xs) = some (.bool true) := by
  show (if SeqAt.shaped (.list xs) = true ∧ SeqAt.shaped (.list xs) = true then some (PyData.bool (PyData.eqv (.list xs) (.list xs))) else none) = _
  rw [if_pos ⟨h.shaped hk, h.shaped hk⟩, e]
theorem whNe (c : Nat) (k : Int) (h : ((c - 1 : Nat) : Int) = k) : pyNe (whD c) (.tuple [.str "raised", .int k]) = some (.bool false) := by
  subst h
  have hl : SeqAt.shaped (whD c) = true := Lay.shaped (k := 1) (Lay.tuple fun x hx => by
    have : x = .str "raised" ∨ x = .int ((c - 1 : Nat) : Int) := by simpa using hx
    rcases this with rfl | rfl
    · exact ⟨by rw [PyData.canLay0]; decide +kernel, by simp [PyData.depth]⟩
    · exact Lay.int _)
  have he : PyData.eqv (whD c) (whD c) = true := by
    unfold whD
    simp [PyData.eqv, PyData.eqvAll]
  show (if SeqAt.shaped (whD c) = true ∧ SeqAt.shaped (whD c) = true then some (PyData.bool (!PyData.eqv (whD c) (whD c))) else none) = _
  rw [if_pos ⟨hl, hl⟩, he]
  rfl
theorem wh_dis {c : Nat} {k : Int} (h : ((c - 1 : Nat) : Int) = k) (sd : Slots) (μ : Mu) : dTup (aCons (dC (.str "raised")) (aCons (dC (.int k)) aNil)) sd μ = .ok (whD c) μ := by
  subst h
  exact tE (aE rfl (aE rfl aN))
section
variable {r : List (List Int)} {K : Nat}
theorem in_gL (G : List Nat) (A : List (List Nat)) : pyIn (gT G) (gL A) = some (.bool (decide (G ∈ A))) := by
  have e : A.map gT = (A.map zG).map iT := by
    rw [List.map_map]
    exact List.map_congr_left fun G _ => gT_iT G
  rw [gT_iT, show gL A = rL (A.map zG) from congrArg PyData.list e, in_rL]
  congr 2
  refine decide_eq_decide.mpr ?_
  rw [List.mem_map]
  constructor
  · rintro ⟨H, hH, e⟩
    have : H = G := (List.map_inj_right fun a b h => by omega).mp e
    rw [← this]
    exact hH
  · exact fun h => ⟨G, h, rfl⟩
theorem pay_keep (i : Nat) : pay r K i + keep r K i = val r (win r K) i := by
  unfold keep
  omega
theorem sum_add2 (f g : Nat → Int) (l : List Nat) : (l.map f).sum + (l.map g).sum = (l.map fun i => f i + g i).sum := by
  induction l with
  | nil => rfl
  | cons x l ih =>
    simp only [List.map_cons, List.sum_cons]
    omega
theorem pays_keeps : (pays r K).sum + ((everyN r).map (keep r K)).sum = top r K := by
  unfold pays
  rw [sum_add2 (pay r K) (keep r K), show (fun i => pay r K i + keep r K i) = val r (win r K) from funext pay_keep, ← tot_sum r (win r K) win_len, tot_win]
theorem gain_all : gainB r K (everyN r) = false := by
  unfold gainB
  rw [pays_keeps]
  exact decide_eq_false (Int.lt_irrefl _)
theorem pay_alone (h : RK r K) (h1 : r.length = 1) : pay r K 0 = 0 := by
  have e : others r.length 0 = [] := by
    rw [h1]
    rfl
  have w : (bestP r (others r.length 0) K).1 = W r K [] := by rw [e]
  have t : top r K = val r (win r K) 0 := by
    rw [← tot_win, tot_sum r (win r K) win_len, h1]
    show val r (win r K) 0 + 0 = _
    omega
  unfold pay
  rw [w, W_nil h, t]
  omega
end
end OL

set_option maxHeartbeats 4000000
/-! OLMir21: totals of any value; which tuples are allotments; draws in comprehensions. -/
namespace OL
open PySem DL
/-! ### draws in a comprehension -/
section
variable {tgt : DG} {ft : DT} {fe : DE} {sdw : Slots}
theorem lcD {α : Type} (en : α → D) (lo hi : Int) : ∀ {xs : List α} {μ : Mu} {m : Nat}, Town R μ m → m + xs.length ≤ 9000 → (∀ x ∈ xs, ∃ sd1, tgt (en x) sdw = some sd1 ∧ ∀ (μ : Mu) (m : Nat), Town R μ m → m ≤ 9000 → ∃ v μ', lo ≤ v ∧ v < hi ∧ fe sd1 μ = .ok (.int v) μ' ∧ Town R μ' (m + 1)) →
    ∃ (vs : List Int) (μ' : Mu), lcLoop tgt dYes fe sdw (xs.map en) μ = .ok (vs.map .int) μ' ∧ vs.length = xs.length ∧ (∀ v ∈ vs, lo ≤ v ∧ v < hi) ∧ Town R μ' (m + xs.length)
  | [], μ, m, hT, _, _ => ⟨[], μ, rfl, rfl, fun v hv => by simp at hv, hT⟩
  | x :: xs, μ, m, hT, hl, h => by
    rw [List.length_cons] at hl
    obtain ⟨sd1, h1, h2⟩ := h x List.mem_cons_self
    obtain ⟨v, μ1, v1, v2, hv, hT1⟩ := h2 μ m hT (by omega)
    obtain ⟨vs, μ', e, hlen, hr, hT2⟩ := lcD en lo hi (xs := xs) hT1 (by omega) fun y hy => h y (List.mem_cons_of_mem _ hy)
    refine ⟨v :: vs, μ', ?_, by rw [List.length_cons, List.length_cons, hlen], fun u hu => ?_, by rw [List.length_cons, show m + (xs.length + 1) = m + 1 + xs.length by omega]; exact hT2⟩
    · rw [List.map_cons]
      unfold lcLoop
      rw [h1]
      simp only [e_yes, nx_ok, Res.bind_ok, if_true, hv, e]
      rfl
    · rcases List.mem_cons.mp hu with rfl | hu
      · exact ⟨v1, v2⟩
      · exact hr u hu
/-- .. in its test -/
theorem lcT {α : Type} (en : α → D) (g : α → D) : ∀ {xs : List α} {μ : Mu} {m : Nat}, Town R μ m → m + xs.length ≤ 9000 → (∀ x ∈ xs, ∃ sd1, tgt (en x) sdw = some sd1 ∧ (∀ (μ : Mu) (m : Nat), Town R μ m → m ≤ 9000 → ∃ b μ', ft sd1 μ = .ok b μ' ∧ Town R μ' (m + 1)) ∧ ∀ μ, fe sd1 μ = .ok (g x) μ) →
    ∃ (ys : List α) (μ' : Mu), lcLoop tgt ft fe sdw (xs.map en) μ = .ok (ys.map g) μ' ∧ ys.Sublist xs ∧ Town R μ' (m + xs.length)
  | [], μ, m, hT, _, _ => ⟨[], μ, rfl, .slnil, hT⟩
  | x :: xs, μ, m, hT, hl, h => by
    rw [List.length_cons] at hl
    obtain ⟨sd1, h1, h2, h3⟩ := h x List.mem_cons_self
    obtain ⟨b, μ1, hb, hT1⟩ := h2 μ m hT (by omega)
    obtain ⟨ys, μ', e, hsub, hT2⟩ := lcT en g (xs := xs) hT1 (by omega) fun y hy => h y (List.mem_cons_of_mem _ hy)
    have hT3 : Town R μ' (m + (x :: xs).length) := by
      rw [List.length_cons, show m + (xs.length + 1) = m + 1 + xs.length by omega]
      exact hT2
    cases b with
    | true =>
      refine ⟨x :: ys, μ', ?_, hsub.cons_cons x, hT3⟩
      rw [List.map_cons]
      unfold lcLoop
      rw [h1]
      simp only [hb, nx_ok, Res.bind_ok, if_true, h3, e]
      rfl
    | false =>
      refine ⟨ys, μ', ?_, hsub.cons x, hT3⟩
      rw [List.map_cons]
      unfold lcLoop
      rw [h1]
      simp only [hb, nx_ok, Res.bind_ok, Bool.false_eq_true, if_false, e]
end
theorem asc_sub {n : Nat} {G : List Nat} (h : G.Sublist (List.range n)) : Asc n G := ⟨fun g hg => List.mem_range.mp (h.subset hg), List.Pairwise.sublist h List.pairwise_lt_range⟩
/-! ### distinct ones -/
theorem met_le (ns : List Int) : metN ns ≤ ns.length := PyProof.Rows.firstMet_length_le _ _
theorem met_nodup {ns : List Int} : metN ns = ns.length ↔ ns.Nodup := by
  constructor
  · intro h
    have key : ∀ i, i ≤ ns.length → (PyProof.Rows.firstMet (fun i => ns.getD i 0) i).length = i → (ns.take i).Nodup := by
      intro i
      induction i with
      | zero => intro _ _; simp
      | succ i ih =>
        intro hi hl
        have hlt : i < ns.length := hi
        rw [PyProof.Rows.firstMet_succ] at hl
        have le := PyProof.Rows.firstMet_length_le (fun i => ns.getD i 0) i
        have e1 : ns.getD i 0 = ns[i] := by
          rw [List.getD_eq_getElem?_getD, List.getElem?_eq_getElem hlt]
          rfl
        have no : (PyProof.Rows.firstMet (fun i => ns.getD i 0) i).any (· == ns.getD i 0) = false := by
          cases c : (PyProof.Rows.firstMet (fun i => ns.getD i 0) i).any (· == ns.getD i 0) with
          | false => rfl
          | true =>
            unfold PyProof.Rows.step_dedup at hl
            rw [c, if_pos rfl] at hl
            omega
        have hl2 : (PyProof.Rows.firstMet (fun i => ns.getD i 0) i).length = i := by
          unfold PyProof.Rows.step_dedup at hl
          rw [no, if_neg Bool.false_ne_true, List.length_append, List.length_singleton] at hl
          omega
        have ih := ih (by omega) hl2
        rw [PyProof.Rows.firstMet_any] at no
        have e2 : (List.range i).map (fun i => ns.getD i 0) = ns.take i := by
          apply List.ext_getElem?
          intro j
          rw [List.getElem?_map, List.getElem?_take]
          by_cases hj : j < i
          · rw [List.getElem?_range hj, if_pos hj]
            rw [getD_of (show j < ns.length by omega)]
            rfl
          · rw [List.getElem?_eq_none (by rw [List.length_range]; omega), if_neg hj]
            rfl
        rw [e2, e1] at no
        rw [List.take_add_one, List.getElem?_eq_getElem hlt]
        show (ns.take i ++ [ns[i]]).Nodup
        rw [List.nodup_append]
        refine ⟨ih, by simp, fun a ha b hb => ?_⟩
        have hb : b = ns[i] := by simpa using hb
        subst hb
        intro q
        rw [List.any_eq_false] at no
        exact no a ha (by simp [q])
    have := key ns.length (Nat.le_refl _) h
    rwa [List.take_length] at this
  · intro h
    show (PyProof.Rows.firstMet (fun i => ns.getD i 0) ns.length).length = _
    rw [RZ.firstMet_nodup h _ (Nat.le_refl _), List.take_length]
/-! ### which tuples are allotments -/
theorem meet_sum : ∀ s, s < 8 → ∀ m, m < 8 → meetL m s = [] → s + m < 8 ∧ ∀ t, t < 3 → (t ∈ tI (s + m) ↔ t ∈ tI s ∨ t ∈ tI m) := by
  have z : ∀ s ∈ List.range 8, ∀ m ∈ List.range 8, meetL m s = [] → s + m < 8 ∧ ∀ t ∈ List.range 3, (t ∈ tI (s + m) ↔ t ∈ tI s ∨ t ∈ tI m) := by decide +kernel
  intro s hs m hm h
  obtain ⟨h1, h2⟩ := z s (List.mem_range.mpr hs) m (List.mem_range.mpr hm) h
  exact ⟨h1, fun t ht => h2 t (List.mem_range.mpr ht)⟩
theorem tI_nodup (s : Nat) : (tI s).Nodup := List.Pairwise.filter _ List.nodup_range
theorem tI_3 {s t : Nat} (h : t ∈ tI s) : t < 3 := List.mem_range.mp (List.mem_filter.mp h).1
theorem given_snoc (a : List Int) (m : Nat) : givenL (a ++ [(m : Int)]) = givenL a ++ tI m := by
  unfold givenL
  rw [List.flatMap_append]
  simp
/-- .. by the things given -/
theorem sh_given {K : Nat} (hK : K ≤ 3) : ∀ (n : Nat) (a : List Int), a.length = n → (∀ x ∈ a, 0 ≤ x ∧ x < ((2 ^ K : Nat) : Int)) → (a ∈ shL K n ↔ (givenL a).Nodup) ∧ (a ∈ shL K n → 0 ≤ a.sum ∧ a.sum < 8 ∧ ∀ t, t < 3 → (t ∈ tI a.sum.toNat ↔ t ∈ givenL a))
  | 0, a, hl, _ => by
    have : a = [] := List.length_eq_zero_iff.mp hl
    subst this
    refine ⟨by simp [shL, givenL], fun _ => ⟨by simp, by simp, ?_⟩⟩
    decide
  | n + 1, a, hl, hx => by
    have h8 := pow_le8 hK
    obtain ⟨b, x, rfl⟩ : ∃ b x, a = b ++ [x] := ⟨a.dropLast, a.getLast (by intro e; rw [e] at hl; simp at hl), (List.dropLast_concat_getLast _).symm⟩
    have hb : b.length = n := by simpa using hl
    obtain ⟨x0, x1⟩ := hx x (by simp)
    obtain ⟨m, rfl⟩ : ∃ m : Nat, x = (m : Int) := ⟨x.toNat, by omega⟩
    have hm : m < 2 ^ K := by omega
    obtain ⟨i1, i2⟩ := sh_given hK n b hb fun y hy => hx y (List.mem_append_left _ hy)
    have mem : b ++ [(m : Int)] ∈ shL K (n + 1) ↔ b ∈ shL K n ∧ meetL m b.sum.toNat = [] := by
      constructor
      · intro h
        obtain ⟨own, ho, h⟩ := List.mem_flatMap.mp h
        obtain ⟨m', hm', hd, e⟩ := shS_mem h
        obtain ⟨e1, e2⟩ := List.append_inj' e rfl
        have e2 : (m : Int) = (m' : Int) := by simpa using e2
        have : m = m' := by omega
        subst this
        subst e1
        exact ⟨ho, hd⟩
      · rintro ⟨h1, h2⟩
        refine List.mem_flatMap.mpr ⟨b, h1, List.mem_flatMap.mpr ⟨m, List.mem_range.mpr hm, ?_⟩⟩
        rw [if_pos h2]
        simp
    have dis (hb2 : b ∈ shL K n) : meetL m b.sum.toNat = [] ↔ ∀ t ∈ tI m, t ∉ givenL b := by
      obtain ⟨_, _, j3⟩ := i2 hb2
      unfold meetL
      rw [List.filter_eq_nil_iff]
      constructor
      · intro h t ht hg
        exact h t ht (decide_eq_true ((j3 t (tI_3 ht)).mpr hg))
      · intro h t ht hg
        exact h t ht ((j3 t (tI_3 ht)).mp (of_decide_eq_true hg))
    constructor
    · rw [mem, given_snoc, List.nodup_append, ← i1]
      constructor
      · rintro ⟨h1, h2⟩
        refine ⟨h1, tI_nodup m, fun u hu v hv e => ?_⟩
        subst e
        exact (dis h1).mp h2 u hv hu
      · rintro ⟨h1, _, h3⟩
        exact ⟨h1, (dis h1).mpr fun t ht hg => h3 t hg t ht rfl⟩
    · intro h
      obtain ⟨h1, h2⟩ := mem.mp h
      obtain ⟨j1, j2, j3⟩ := i2 h1
      obtain ⟨k1, k2⟩ := meet_sum b.sum.toNat (by omega) m (by omega) h2
      have es : (b ++ [(m : Int)]).sum = ((b.sum.toNat + m : Nat) : Int) := by
        rw [List.sum_append]
        simp
        omega
      rw [es, Int.toNat_natCast]
      refine ⟨by omega, by omega, fun t ht => ?_⟩
      rw [k2 t ht, j3 t ht, given_snoc, List.mem_append]
theorem zG_nodup {l : List Nat} : (zG l).Nodup ↔ l.Nodup := by
  unfold zG List.Nodup
  rw [List.pairwise_map]
  exact ⟨fun h => h.imp fun h e => h (by rw [e]), fun h => h.imp fun h e => h (by omega)⟩
section
variable {r : List (List Int)} {K : Nat}
theorem met_sh (h : RK r K) {a : List Int} (e : Ent r K a) : metN (zG (givenL a)) = (givenL a).length ↔ a ∈ allA r.length (everyN r) K := by
  have l : (zG (givenL a)).length = (givenL a).length := List.length_map _
  rw [← l, met_nodup, zG_nodup, sh_all h.room.one h.len h.k1 h.k3]
  exact ((sh_given h.k3 r.length a e.len e.rng).1).symm
theorem m_totalE (h : RK r K) {a : List Int} (e : Ent r K a) (μ : Mu) : F_total [rT r, iT a] μ = .ok (if a ∈ allA r.length (everyN r) K then .int (tot r a) else .none) μ := by
  rw [m_total h e.len e.rng]
  by_cases c : a ∈ allA r.length (everyN r) K
  · rw [if_pos c, if_pos ((met_sh h e).mpr c)]
  · rw [if_neg c, if_neg fun q => c ((met_sh h e).mp q)]
/-! ### totals of other values -/
def entD (n K : Nat) : D → Bool
  | .tuple ds => decide (ds.length = n) && ds.all fun x => isintD x 0 (((2 ^ K : Nat) : Int) - 1)
  | _ => false
theorem m_total_bad (h : RK r K) {d : D} (hd : ok1 d = true) (hb : entD r.length K d = false) (μ : Mu) : F_total [rT r, d] μ = .ok .none μ := by
  have hr := h.len
  refine fn_ret (show D_total [some (.v (rT r)), some (.v d), none, none] μ = _ from seq_next (drop_n (c1 (vr rfl) (m_check_room h.room μ))) ?_)
  have nott (h : isTupD d = false) (x : DT) (s : DS) : sSeq (sIf (dOr (dNot (dTest (dIsi "tuple" (dVar 1)))) x) (sRet (dC .none)) sNext) s [some (.v (rT r)), some (.v d), none, none] μ = .ok (.ret .none) μ := by
    refine seq_ret (if_t (or_t (nt (x := false) (te ?_))) (ret_v rfl))
    rw [e_isi, vr rfl, Res.bind_ok, isiT d (ok1_okD hd), h]
    rfl
  cases d with
  | tuple ds =>
    have tl := tb (f := pyNe) (sd := [some (.v (rT r)), some (.v (.tuple ds)), none, none]) (b1 (F := DL.pyLen) (vr (i := 1) rfl) (l_t ds μ)) (b1 (F := DL.pyLen) (vr (i := 0) rfl) ((l_t _ μ).trans (by rw [List.length_map]))) (ne_nD ds.length r.length)
    by_cases c1 : ds.length = r.length
    · have hb2 : (decide (ds.length = r.length) && ds.all fun x => isintD x 0 (((2 ^ K : Nat) : Int) - 1)) = false := hb
      rw [decide_eq_true c1, Bool.true_and] at hb2
      rw [decide_eq_true c1] at tl
      have z : dLc (iAny (dVar 1)) (gN 2) dYes (dCall F_is_integer (aCons (dVar 2) (aCons (dC (.int 0)) (aCons (dBin pySub (dCB DL.pyLen (aCons (dBin pyIx (dVar 0) (dC (.int 0))) aNil)) (dC (.int 1))) aNil)))) [2] [some (.v (rT r)), some (.v (.tuple ds)), none, none] μ = .ok (ds.map fun x => .bool (isintD x 0 (((2 ^ K : Nat) : Int) - 1))) μ :=
        lcM (fun x => x) (fun x => .bool (isintD x 0 (((2 ^ K : Nat) : Int) - 1))) (iAt ((vr rfl).trans (by rw [List.map_id'']; intro x; rfl))) (by omega) fun x hx => ⟨_, rfl, c3 (vr rfl) rfl (sub2 (x := ((2 ^ K : Nat) : Int)) (y := 1) (len_row0 h _ rfl μ) rfl) (m_isint (List.all_eq_true.mp hd x hx) 0 _ μ)⟩
      have t := te (b1 (sh z) (all_map' _ _ μ))
      rw [hb2] at t
      exact seq_next (if_f (or_r (nt (x := true) (te rfl)) tl) (e_next (μ := μ))) (seq_ret (if_t (nt t) (ret_v rfl)))
    · rw [decide_eq_false c1] at tl
      exact seq_ret (if_t (or_r (nt (x := true) (te rfl)) tl) (ret_v rfl))
  | dict x => cases hd
  | _ => exact nott rfl _ _
theorem cut_last (xs : List D) : cutD xs none (some (-1)) = xs.dropLast := by
  unfold cutD
  have e : HT.sIx xs.length xs.length (some (-1)) = xs.length - 1 := by
    show (if (-1 : Int) < 0 then ((-1 : Int) + (xs.length : Int)).toNat else min (-1 : Int).toNat xs.length) = _
    rw [if_pos (by decide)]
    omega
  rw [e, HT.sIx_none]
  simp [List.dropLast_eq_take]
end
theorem ext_o {i : Nat} {sd : Slots} {μ μ' : Mu} {xs ys : List D} {fl : DA} (hs : sd[i]? = some (some (.own xs))) (h : fl sd μ = .ok ys μ') (hl : xs.length + ys.length ≤ 100000) : sExt i (xO fl) sd μ = .ok (.next (sd.set i (some (.own (xs ++ ys))))) μ' := by
  unfold sExt
  rw [hs]
  simp only [e_xO, h, Res.bind_ok]
  rw [if_pos (DL.sizeL hl)]
theorem sl_of {fa : DE} {fl fh : DO} {sd : Slots} {μ μ1 μ2 μ3 : Mu} {a d : D} {lo hi : Option Int} (ha : fa sd μ = .ok a μ1) (h1 : fl sd μ1 = .ok lo μ2) (h2 : fh sd μ2 = .ok hi μ3) (h : pySl a lo hi = some d) : dSl fa fl fh sd μ = .ok d μ3 := by
  rw [e_sl, ha, Res.bind_ok, h1, Res.bind_ok, h2, Res.bind_ok, h]
  rfl
theorem oS {fa : DE} {sd : Slots} {μ μ1 : Mu} {i : Int} (ha : fa sd μ = .ok (.int i) μ1) : oSome fa sd μ = .ok (some i) μ1 := by
  rw [e_oSome, ha]
  rfl
theorem neg_of {fa : DE} {sd : Slots} {μ μ1 : Mu} {i : Int} (ha : fa sd μ = .ok (.int i) μ1) : dUn pyNeg fa sd μ = .ok (.int (-i)) μ1 := by
  rw [e_un, ha]
  rfl
theorem slt1 {fa : DE} {sd : Slots} {μ μ1 : Mu} {xs : List D} (ha : fa sd μ = .ok (.tuple xs) μ1) : dSl fa (oSome (dC (.int 1))) oNone sd μ = .ok (.tuple (xs.drop 1)) μ1 :=
  sl_of ha (oS (i := 1) rfl) rfl (congrArg (fun z => some (PyData.tuple z)) (cut_one xs))
theorem sltL {fa : DE} {sd : Slots} {μ μ1 : Mu} {xs : List D} (ha : fa sd μ = .ok (.tuple xs) μ1) : dSl fa oNone (oSome (dUn pyNeg (dC (.int 1)))) sd μ = .ok (.tuple xs.dropLast) μ1 :=
  sl_of ha rfl (oS (neg_of (i := 1) rfl)) (congrArg (fun z => some (PyData.tuple z)) (cut_last xs))
theorem lOfT {fa : DE} {sd : Slots} {μ μ1 : Mu} {xs : List D} (ha : fa sd μ = .ok (.tuple xs) μ1) : dShare (lList fa) sd μ = .ok (.list xs) μ1 := by
  rw [e_share, e_list, ha]
  rfl
theorem dl_of {fs : DA} {sd : Slots} {μ μ1 : Mu} {ds : List D} (h : fs sd μ = .ok ds μ1) (hl : ds.length ≤ 100000 := by first | decide | simp) : dLst fs sd μ = .ok ds μ1 := by
  rw [e_lst, h, Res.bind_ok, if_pos hl]
  rfl
theorem catT {fa fb : DE} {sd : Slots} {μ μ1 μ2 : Mu} {xs ys : List D} (ha : fa sd μ = .ok (.tuple xs) μ1) (hb : fb sd μ1 = .ok (.tuple ys) μ2) (hl : xs.length + ys.length ≤ 100000) : dBin pyAdd fa fb sd μ = .ok (.tuple (xs ++ ys)) μ2 := bn ha hb (pAddT hl)
end OL

set_option maxHeartbeats 4000000
/-! OLMir22: another bid handed in: what is kept by it; errors of kept_by; the number of things. -/
namespace OL
open PySem DL
/-- [2, 4, 8].index(a length) + 1 -/
theorem things_of {K : Nat} (k1 : 1 ≤ K) (k3 : K ≤ 3) {fe : DE} {sd : Slots} {μ μ' : Mu} (h : fe sd μ = .ok (nD (2 ^ K)) μ') :
    dBin pyAdd (dIdx (dShare (dLst (aCons (dC (.int 2)) (aCons (dC (.int 4)) (aCons (dC (.int 8)) aNil))))) fe) (dC (.int 1)) sd μ = .ok (nD K) μ' := by
  have e : pyIdx (.list [.int 2, .int 4, .int 8]) (nD (2 ^ K)) = some (.int ((K : Int) - 1)) := by
    have hk : K = 1 ∨ K = 2 ∨ K = 3 := by omega
    rcases hk with rfl | rfl | rfl <;> rfl
  refine bn (b := .int 1) (a := .int ((K : Int) - 1)) (μ1 := μ') ?_ rfl ?_
  · unfold dIdx
    rw [lst3, Res.bind_ok, if_pos (show isList (.list [PyData.int 2, .int 4, .int 8]) = true from rfl), h, Res.bind_ok, e]
    rfl
  · rw [p_add]
    show some (PyData.int _) = some (PyData.int _)
    congr 2
    omega
/-- r[:i] + (b,) + r[i + 1:] -/
theorem put_at {r : List (List Int)} {i : Nat} (hi : i < r.length) (hl : r.length ≤ 4) (b : List Int) {fr fi fb : DE} {sd : Slots} {μ : Mu} (h1 : fr sd μ = .ok (rT r) μ) (h2 : fi sd μ = .ok (nD i) μ) (h3 : fb sd μ = .ok (iT b) μ) :
    dBin pyAdd (dBin pyAdd (dSl fr oNone (oSome fi)) (dTup (aCons fb aNil))) (dSl fr (oSome (dBin pyAdd fi (dC (.int 1)))) oNone) sd μ = .ok (rT (r.set i b)) μ := by
  obtain ⟨e1, e2⟩ := put_ok hi hl b
  exact bn (bn (sl_of h1 rfl (oS h2) rfl) (tE (aE h3 aN)) e1) (sl_of h1 (oS (add2 (y := 1) h2 rfl)) rfl rfl) e2
section
variable {r : List (List Int)} {K : Nat}
theorem m_kept_by_bad1 (h : RK r K) {d e : D} (hd : okD d = true) (hb : isintD d 0 ((r.length : Int) - 1) = false) (μ : Mu) : F_kept_by [rT r, d, e] μ = .exc e_InvalidBidder μ :=
  fn_exc (show D_kept_by [some (.v (rT r)), some (.v d), some (.v e), none, none] μ = _ from seq_next (drop_n (c1 (vr rfl) (m_check_room h.room μ))) (seq_exc (if_t (nt (x := false) (te (c3 (vr rfl) rfl (sub2 (x := (r.length : Int)) (y := 1) (b1 (vr rfl) ((l_t _ μ).trans (by rw [List.length_map]))) rfl) ((m_isint hd 0 _ μ).trans (by rw [hb]))))) rfl)))
theorem len_row0' (h : RK r K) (sd : Slots) (i : Nat) (h0 : sd[i]? = some (some (.v (rT r)))) (μ : Mu) : dCB DL.pyLen (aCons (dBin pyIx (dVar i) (dC (.int 0))) aNil) sd μ = .ok (nD (2 ^ K)) μ := by
  obtain ⟨e1, e2⟩ := row0 h
  exact b1 (bn (vr h0) rfl ((x_t _).trans e1)) (by rw [l_t, List.length_map, e2])
theorem m_kept_by_bad2 (h : RK r K) {i : Nat} (hi : i < r.length) {d : D} (hd : ok1 d = true) (hb : bidD (2 ^ K) d = false) (μ : Mu) : F_kept_by [rT r, nD i, d] μ = .exc e_InvalidBid μ :=
  fn_exc (show D_kept_by [some (.v (rT r)), some (.v (nD i)), some (.v d), none, none] μ = _ from seq_next (drop_n (c1 (vr rfl) (m_check_room h.room μ))) (seq_next (if_f (nt (x := true) (te (c3 (vr rfl) rfl (sub2 (x := (r.length : Int)) (y := 1) (b1 (vr rfl) ((l_t _ μ).trans (by rw [List.length_map]))) rfl) ((m_is_integer _ 0 _ μ).trans (by rw [decide_eq_true (by omega)]))))) rfl) (seq_exc (if_t (nt (x := false) (te (c2 (vr rfl) (len_row0' h _ 0 rfl μ) ((m_bidsD h.room.size hd μ).trans (by rw [hb]))))) rfl))))
/-! ### the others' best does not ask one's bid -/
theorem set_row_ne {i j : Nat} {b : List Int} (hij : j ≠ i) : (r.set i b).getD j [] = r.getD j [] := by
  rw [List.getD_eq_getElem?_getD, List.getElem?_set_ne (Ne.symm hij), ← List.getD_eq_getElem?_getD]
theorem set_val_ne {i j : Nat} {b : List Int} {a : List Int} (hij : j ≠ i) : val (r.set i b) a j = val r a j := by
  unfold val
  rw [set_row_ne hij]
theorem set_len {i : Nat} {b : List Int} : (r.set i b).length = r.length := List.length_set ..
theorem set_tot {i : Nat} (hi : i < r.length) {b a : List Int} (ha : a.length = r.length) : tot (r.set i b) a - val (r.set i b) a i = tot r a - val r a i := by
  rw [tot_sum _ a (by rw [set_len]; exact ha), tot_sum r a ha, set_len]
  have z := sum_set (val (r.set i b) a) (val r a) r.length i hi fun j hj => set_val_ne hj
  omega
theorem bid0 {b : List Int} (hb : bidB (2 ^ K) b = true) : b.getD 0 0 = 0 := by
  unfold bidB at hb
  simp only [Bool.and_eq_true, decide_eq_true_eq] at hb
  exact hb.2.2.1
theorem set_W (h : RK r K) {i : Nat} (hi : i < r.length) {b : List Int} (hb : bidB (2 ^ K) b = true) {G : List Nat} (hG : i ∉ G) : W (r.set i b) K G = W r K G := by
  have h' := set_rk h (i := i) hb
  have z0 : ∀ a ∈ rawA r.length G K, tot (r.set i b) a = tot r a := fun a ha => by
    have hl := rawA_mem K a ha
    have e := set_tot (b := b) hi hl
    have o := rawA_off hG K a ha
    have v1 : val (r.set i b) a i = 0 := by
      unfold val
      rw [o, show (r.set i b).getD i [] = b by rw [List.getD_eq_getElem?_getD, List.getElem?_set_self hi]; rfl]
      exact bid0 hb
    have v2 : val r a i = 0 := by
      unfold val
      rw [o]
      exact bid_zero h (row_mem hi)
    omega
  obtain ⟨a1, a2⟩ := W_at r K G
  obtain ⟨b1, b2⟩ := W_at (r.set i b) K G
  rw [set_len] at b1
  have := W_ge (r := r) b1
  have := W_ge (r := r.set i b) (K := K) (G := G) (a := (bestP r G K).2) (by rw [set_len]; exact a1)
  rw [z0 _ a1] at this
  rw [z0 _ b1] at b2
  omega
theorem not_others {n i : Nat} : i ∉ others n i := fun h => by
  have := (List.mem_filter.mp h).2
  simp at this
/-- by another bid nobody keeps more -/
theorem kept_less (h : RK r K) {i : Nat} (hi : i < r.length) {b : List Int} (hb : bidB (2 ^ K) b = true) : val r (win (r.set i b) K) i - pay (r.set i b) K i ≤ keep r K i := by
  have h' := set_rk h (i := i) hb
  have e1 : W (r.set i b) K (others (r.set i b).length i) = W r K (others r.length i) := by rw [set_len]; exact set_W h hi hb not_others
  have wl : (win (r.set i b) K).length = r.length := by rw [win_len, set_len]
  have e2 := set_tot (b := b) (a := win (r.set i b) K) hi wl
  have e3 := tot_win (r := r.set i b) (K := K)
  have le : tot r (win (r.set i b) K) ≤ top r K := by
    have z : ∀ m, m = r.length → ∀ a, a ∈ rawA m (List.range m) K → a ∈ rawA r.length (List.range r.length) K := fun m e a ha => by
      subst e
      exact ha
    exact W_ge (z _ set_len _ (W_at (r.set i b) K (everyN (r.set i b))).1)
  have kp := keep_eq (r := r) (K := K) i
  unfold pay
  have e1' : (bestP (r.set i b) (others (r.set i b).length i) K).1 = W r K (others r.length i) := e1
  omega
theorem set_self {i : Nat} (hi : i < r.length) : r.set i (r.getD i []) = r := by
  apply List.ext_getElem?
  intro j
  by_cases hj : i = j
  · subst hj
    rw [List.getElem?_set_self hi, List.getD_eq_getElem?_getD, List.getElem?_eq_getElem hi]
    rfl
  · rw [List.getElem?_set_ne hj]
theorem row_bid (h : RK r K) {i : Nat} (hi : i < r.length) : bidB (2 ^ K) (r.getD i []) = true := h.room.bids _ (row_mem hi)
theorem kept_same (h : RK r K) {i : Nat} (hi : i < r.length) : val r (win (r.set i (r.getD i [])) K) i - pay (r.set i (r.getD i [])) K i = keep r K i := by
  rw [set_self hi]
  rfl
theorem ix_keep {i : Nat} (hi : i < r.length) : L2.atI ((keeps r K).map PyData.int) (i : Int) = some (.int (keep r K i)) := by
  unfold keeps everyN
  rw [at_nat, List.map_map, List.getElem?_map, List.getElem?_range hi]
  rfl
theorem ix_pay {i : Nat} (hi : i < r.length) : L2.atI ((pays r K).map PyData.int) (i : Int) = some (.int (pay r K i)) := by
  unfold pays everyN
  rw [at_nat, List.map_map, List.getElem?_map, List.getElem?_range hi]
  rfl
theorem ix_w {i : Nat} (hi : i < r.length) : L2.atI ((win r K).map PyData.int) (i : Int) = some (.int ((win r K).getD i 0)) := by
  rw [at_map, getD_of (by rw [win_len]; exact hi)]
  rfl
end
/-! ### values that are no bids -/
theorem bid_len {n : Nat} {xs : List D} (h : xs.length ≠ n) : bidD n (.tuple xs) = false := by
  show (decide (xs.length = n) && _) = false
  rw [decide_eq_false h, Bool.false_and]
theorem bid_ent {n : Nat} {xs : List D} (h : xs.all (fun x => isintD x 0 9) = false) : bidD n (.tuple xs) = false := by
  show (decide (xs.length = n) && (xs.all (fun x => isintD x 0 9) && _)) = false
  rw [h, Bool.false_and, Bool.and_false]
theorem bid_last9 {n : Nat} {xs : List D} {x : D} (h : isintD x 0 9 = false) : bidD n (.tuple (xs ++ [x])) = false := bid_ent (by
  rw [List.all_append]
  have : ([x].all fun x => isintD x 0 9) = false := by
    show (isintD x 0 9 && true) = false
    rw [h]
    rfl
  rw [this, Bool.and_false])
theorem bid_first {n : Nat} {xs : List D} {i : Int} (h : i ≠ 0) : bidD n (.tuple (.int i :: xs)) = false := by
  have e : bidB n ((PyData.int i :: xs).map numD) = false := by
    show (decide _ && (_ && (decide ((i :: xs.map numD).getD 0 0 = 0) && _))) = false
    rw [show decide ((i :: xs.map numD).getD 0 0 = 0) = false from decide_eq_false h, Bool.false_and, Bool.and_false, Bool.and_false]
  show (decide _ && (_ && bidB n ((PyData.int i :: xs).map numD))) = false
  rw [e, Bool.and_false, Bool.and_false]
theorem okI (b : List Int) : ∀ x ∈ b.map PyData.int, okD x = true := fun x hx => by
  obtain ⟨i, _, rfl⟩ := List.mem_map.mp hx
  rfl
theorem ok_tup {xs : List D} (h : ∀ x ∈ xs, okD x = true) : ok1 (.tuple xs) = true := List.all_eq_true.mpr h
theorem ok_snoc {xs : List D} {y : D} (h : ∀ x ∈ xs, okD x = true) (hy : okD y = true) : ∀ x ∈ xs ++ [y], okD x = true := fun x hx => by
  rcases List.mem_append.mp hx with hx | hx
  · exact h x hx
  · rw [show x = y by simpa using hx]
    exact hy
end OL

set_option maxHeartbeats 4000000
/-! OLMir23: the law's own look at prices. -/
namespace OL
open PySem DL
theorem allP_in : ∀ (k : Nat), ∀ p ∈ allP k, ∀ x ∈ p, 0 ≤ x ∧ x ≤ 9
  | 0, p, h, x, hx => by
    rw [show p = [] by simpa [allP] using h] at hx
    simp at hx
  | k + 1, p, h, x, hx => by
    obtain ⟨q, hq, h⟩ := List.mem_flatMap.mp h
    obtain ⟨o, ho, rfl⟩ := List.mem_map.mp h
    have ho := List.mem_range.mp ho
    rcases List.mem_append.mp hx with hx | hx
    · exact allP_in k q hq x hx
    · have : x = (o : Int) := by simpa using hx
      omega
theorem mem_allP : ∀ (k : Nat) (p : List Int), p.length = k → (∀ x ∈ p, 0 ≤ x ∧ x ≤ 9) → p ∈ allP k
  | 0, p, hl, _ => by
    rw [List.length_eq_zero_iff.mp hl]
    simp [allP]
  | k + 1, p, hl, hx => by
    obtain ⟨q, x, rfl⟩ : ∃ q x, p = q ++ [x] := ⟨p.dropLast, p.getLast (by intro e; rw [e] at hl; simp at hl), (List.dropLast_concat_getLast _).symm⟩
    have x9 := hx x (by simp)
    refine List.mem_flatMap.mpr ⟨q, mem_allP k q (by simpa using hl) fun y hy => hx y (List.mem_append_left _ hy), List.mem_map.mpr ⟨x.toNat, List.mem_range.mpr (by omega), ?_⟩⟩
    congr 2
    omega
theorem price_nn {p : List Int} (hp : ∀ x ∈ p, 0 ≤ x ∧ x ≤ 9) (s : Nat) : 0 ≤ priceOf p s := sum_nonneg _ fun t ht => by
  by_cases c : t < p.length
  · rw [List.getD_eq_getElem?_getD, List.getElem?_eq_getElem c]
    exact (hp _ (List.getElem_mem c)).1
  · rw [List.getD_eq_getElem?_getD, List.getElem?_eq_none (by omega)]
    exact Int.le_refl _
theorem m_cost {p : List Int} {k s : Nat} (hk : k ≤ 3) (hp : p.length = k) (hs : s < 2 ^ k) (μ : Mu) : F__law_cost [iT p, nD s] μ = .ok (.int (priceOf p s)) μ := by
  have hl : (tI s).length ≤ 3 := List.length_filter_le _ _
  refine fn_ret (show D__law_cost [some (.v (iT p)), some (.v (nD s)), none] μ = _ from ret_v (b1 (sh (lcM nD (fun t => .int (p.getD t 0)) (iA (c1 (vr rfl) (m_inside s μ))) (by omega) fun t ht => ⟨_, rfl, ?_⟩)) (sum_map' _ _ μ)))
  have ht := tI_lt hk hs t ht
  exact bn (vr rfl) (vr rfl) ((x_t _).trans (by rw [at_map, getD_of (by omega)]; rfl))
section
variable {r : List (List Int)} {K : Nat}
def betterB (p b : List Int) (m : Int) : List Nat := (List.range b.length).filter fun s => decide (m < b.getD s 0 - priceOf p s)
def fitsB (r : List (List Int)) (K : Nat) (a p : List Int) : Bool := decide (priceOf p (((2 ^ K : Nat) : Int) - 1 - a.sum).toNat = 0) && !(r.zip a).any fun q => !decide (betterB p q.1 (q.1.getD q.2.toNat 0 - priceOf p q.2.toNat) = [])
abbrev IB : DA := dLc (iRg1 (dCB DL.pyLen (aCons (dVar 4) aNil))) (gN 7) (dTest (dBin pyGt (dBin pySub (dBin pyIx (dVar 4) (dVar 7)) (dCall F__law_cost (aCons (dVar 2) (aCons (dVar 7) aNil)))) (dVar 6))) (dC (.int 1)) [7]
abbrev B_fit : DS := sSeq (sAsg 6 (xV (dBin pySub (dBin pyIx (dVar 4) (dVar 5)) (dCall F__law_cost (aCons (dVar 2) (aCons (dVar 5) aNil)))))) (sIf (dTest (dBin pyNe (dShare IB) (dShare (dLst aNil)))) (sRet (dC (.bool false))) sNext)
theorem ib_ok {p : List Int} {k : Nat} (hk : k ≤ 3) (hp : p.length = k) {b : List Int} (hb : b.length = 2 ^ k) (m : Int) (s0 s1 s3 s5 s7 : Option Sl) (μ : Mu) : dShare IB [s0, s1, some (.v (iT p)), s3, some (.v (iT b)), s5, some (.v (.int m)), s7] μ = .ok (iL ((betterB p b m).map fun _ => 1)) μ := by
  have b8 := pow_le8 hk
  have z : IB [s0, s1, some (.v (iT p)), s3, some (.v (iT b)), s5, some (.v (.int m)), s7] μ = .ok ((betterB p b m).map fun _ => .int 1) μ := by
    refine lcE nD (fun s => decide (m < b.getD s 0 - priceOf p s)) (fun _ => .int 1) (iR (n := b.length) (b1 (vr rfl) ((l_t _ μ).trans (by rw [List.length_map]))) (by omega)) (by rw [List.length_range]; omega) fun s hs => ⟨_, rfl, ?_, fun _ => rfl⟩
    have hs := List.mem_range.mp hs
    exact gt_b (sub2 (bn (vr rfl) (vr rfl) ((x_t _).trans (by rw [at_map, getD_of hs]; rfl))) (c2 (vr rfl) (vr rfl) (m_cost hk hp (by omega) μ))) (vr rfl)
  rw [sh z]
  show Res.ok (PyData.list _) μ = Res.ok (PyData.list _) μ
  rw [List.map_map]
  rfl
theorem m_fits (h : RK r K) {a p : List Int} (e : Ent r K a) (hs : 0 ≤ a.sum ∧ a.sum ≤ ((2 ^ K : Nat) : Int) - 1) (hp : p.length = K) (μ : Mu) : F__law_fits [rT r, iT a, iT p] μ = .ok (.bool (fitsB r K a p)) μ := by
  have hl := h.len
  obtain ⟨g, hg⟩ : ∃ g : Nat, ((2 ^ K : Nat) : Int) - 1 - a.sum = (g : Int) := ⟨(((2 ^ K : Nat) : Int) - 1 - a.sum).toNat, by omega⟩
  have hg2 : g < 2 ^ K := by omega
  have eg : (((2 ^ K : Nat) : Int) - 1 - a.sum).toNat = g := by omega
  refine fn_ret (show D__law_fits [some (.v (rT r)), some (.v (iT a)), some (.v (iT p)), none, none, none, none, none] μ = _ from ?_)
  unfold fitsB
  rw [eg]
  refine seq_next ((asg_v (d := nD g) ((sub2 (sub2 (x := ((2 ^ K : Nat) : Int)) (y := 1) (len_row0' h _ 0 rfl μ) rfl) (b1 (vr rfl) (sum_iT a μ))).trans (by rw [hg]))).trans rfl) ?_
  have t := tb (f := pyNe) (sd := [some (.v (rT r)), some (.v (iT a)), some (.v (iT p)), some (.v (nD g)), none, none, none, none]) (fb := dC (.int 0)) (c2 (F := F__law_cost) (vr (i := 2) rfl) (vr (i := 3) rfl) (m_cost h.k3 hp hg2 μ)) rfl p_ne
  by_cases c : priceOf p g = 0
  · rw [decide_eq_true c] at t
    refine seq_next (if_f t (e_next (μ := μ))) ?_
    have lp := for_encC (μ := μ) (tgt := g2 4 5) (fb := B_fit) (fun q : List Int × Int => .tuple [iT q.1, .int q.2]) (fun sd => ∃ x4 x5 x6 x7, sd = [some (.v (rT r)), some (.v (iT a)), some (.v (iT p)), some (.v (nD g)), x4, x5, x6, x7]) (fun q => !decide (betterB p q.1 (q.1.getD q.2.toNat 0 - priceOf p q.2.toNat) = [])) (.bool false) (xs := r.zip a) (fun q hq sd ⟨x4, x5, x6, x7, es⟩ => ⟨_, rfl, by
      subst es
      have hz := List.of_mem_zip hq
      have hx := e.rng _ hz.2
      have hb := h.bl _ hz.1
      obtain ⟨b, x⟩ := q
      obtain ⟨s, rfl⟩ : ∃ s : Nat, x = (s : Int) := ⟨x.toNat, by have := hx.1; simp only at this; omega⟩
      have hs : s < 2 ^ K := by have := hx.2; simp only at this; omega
      have hb : b.length = 2 ^ K := hb
      have mine : dBin pySub (dBin pyIx (dVar 4) (dVar 5)) (dCall F__law_cost (aCons (dVar 2) (aCons (dVar 5) aNil))) [some (.v (rT r)), some (.v (iT a)), some (.v (iT p)), some (.v (nD g)), some (.v (iT b)), some (.v (nD s)), x6, x7] μ = .ok (.int (b.getD s 0 - priceOf p s)) μ :=
        sub2 (bn (vr rfl) (vr rfl) ((x_t _).trans (by rw [at_map, getD_of (by omega)]; rfl))) (c2 (vr rfl) (vr rfl) (m_cost h.k3 hp hs μ))
      have t := tb (f := pyNe) (sd := [some (.v (rT r)), some (.v (iT a)), some (.v (iT p)), some (.v (nD g)), some (.v (iT b)), some (.v (nD s)), some (.v (.int (b.getD s 0 - priceOf p s))), x7]) (ib_ok h.k3 hp hb _ _ _ _ _ _ μ) (lst_nil μ _) (pn_iL _ [])
      rw [show decide (((betterB p b (b.getD s 0 - priceOf p s)).map fun _ => (1 : Int)) = []) = decide (betterB p b (b.getD s 0 - priceOf p s) = []) by simp] at t
      simp only [Int.toNat_natCast]
      by_cases cc : betterB p b (b.getD s 0 - priceOf p s) = []
      · rw [decide_eq_true cc] at t
        rw [if_neg (by rw [decide_eq_true cc]; decide)]
        exact ⟨_, seq_next (asg_v mine) (if_f t (e_next (μ := μ))), _, _, _, _, rfl⟩
      · rw [decide_eq_false cc] at t
        rw [if_pos (by rw [decide_eq_false cc]; decide)]
        exact seq_next (asg_v mine) (if_t t (ret_v rfl))⟩) (sd := [some (.v (rT r)), some (.v (iT a)), some (.v (iT p)), some (.v (nD g)), none, none, none, none]) ⟨_, _, _, _, rfl⟩
    have it : iZ2 (dVar 0) (dVar 1) [some (.v (rT r)), some (.v (iT a)), some (.v (iT p)), some (.v (nD g)), none, none, none, none] μ = .ok ((r.zip a).map fun q => .tuple [iT q.1, .int q.2]) μ := by
      simp only [e_iZ2, e_var, List.getElem?_cons_succ, List.getElem?_cons_zero, Res.bind_ok, zip2Of, lift_some, zip2_map]
    rw [decide_eq_true c, Bool.true_and]
    cases cc : (r.zip a).any fun q => !decide (betterB p q.1 (q.1.getD q.2.toNat 0 - priceOf p q.2.toNat) = []) with
    | true =>
      rw [cc, if_pos rfl] at lp
      exact seq_ret (for_s it lp)
    | false =>
      rw [cc, if_neg Bool.false_ne_true] at lp
      obtain ⟨sd', l1, _⟩ := lp
      exact seq_next (for_s it l1) rfl
  · rw [decide_eq_false c] at t
    rw [decide_eq_false c]
    exact seq_ret (if_t t (ret_v rfl))
theorem better_most {p b : List Int} (hb : 0 < b.length) (m : Int) : decide (betterB p b m = []) = decide (most b p ≤ m) := by
  refine decide_eq_decide.mpr ?_
  unfold betterB most
  generalize hf : (fun s => b.getD s 0 - priceOf p s) = f
  have e : (fun s => decide (m < b.getD s 0 - priceOf p s)) = fun s => decide (m < f s) := by rw [← hf]
  rw [e, List.filter_eq_nil_iff]
  have ne : (List.range b.length).map f ≠ [] := fun q => by
    have := congrArg List.length q
    rw [List.length_map, List.length_range, List.length_nil] at this
    omega
  constructor
  · intro h
    refine maxI_le ne fun x hx => ?_
    obtain ⟨s, hs, rfl⟩ := List.mem_map.mp hx
    have := h s hs
    rw [decide_eq_true_iff] at this
    omega
  · intro h s hs
    have := maxI_ge (List.mem_map.mpr ⟨s, hs, rfl⟩ : f s ∈ (List.range b.length).map f)
    rw [decide_eq_true_iff]
    omega
/-- the law's look and the program's are one -/
theorem fits_parts (h : RK r K) (a : List Int) {p : List Int} (hp : ∀ x ∈ p, 0 ≤ x ∧ x ≤ 9) : fitsB r K a p = partsB r K a p := by
  unfold fitsB partsB
  have nn := price_nn hp (((2 ^ K : Nat) : Int) - 1 - a.sum).toNat
  rw [show decide (priceOf p (((2 ^ K : Nat) : Int) - 1 - a.sum).toNat = 0) = decide (priceOf p (((2 ^ K : Nat) : Int) - 1 - a.sum).toNat ≤ 0) from decide_eq_decide.mpr (by omega)]
  congr 1
  rw [any_not, Bool.not_not]
  have : ∀ l : List (List Int × Int), (∀ q ∈ l, 0 < q.1.length) → (l.all fun q => !!decide (betterB p q.1 (q.1.getD q.2.toNat 0 - priceOf p q.2.toNat) = [])) = l.all fun q => decide (most q.1 p ≤ q.1.getD q.2.toNat 0 - priceOf p q.2.toNat) := by
    intro l hl
    induction l with
    | nil => rfl
    | cons q l ih =>
      rw [List.all_cons, List.all_cons, ih fun q hq => hl q (List.mem_cons_of_mem _ hq), Bool.not_not, better_most (hl q List.mem_cons_self)]
  exact this _ fun q hq => by
    have := h.bl _ (List.of_mem_zip hq).1
    have := Nat.two_pow_pos K
    omega
end
end OL

set_option maxHeartbeats 4000000
/-! OLMir24: is_bid of any value; which numbers rise with the sets; a list of draws. -/
namespace OL
open PySem DL
theorem m_things_bad {d : D} (hd : okD d = true) (hb : isintD d 1 3 = false) (μ : Mu) : F_check_things [d] μ = .exc e_InvalidNumber μ :=
  fn_exc (show D_check_things [some (.v d)] μ = _ from if_t (nt (x := false) (te (c3 (vr rfl) rfl rfl ((m_isint hd 1 3 μ).trans (by rw [hb]))))) rfl)
theorem m_is_bidD {K : Nat} (h1 : 1 ≤ K) (h3 : K ≤ 3) {d : D} (hd : ok1 d = true) (μ : Mu) : F_is_bid [nD K, d] μ = .ok (.bool (bidD (2 ^ K) d)) μ := by
  have hk : 2 ^ K = 2 ∨ 2 ^ K = 4 ∨ 2 ^ K = 8 := by rcases (show K = 1 ∨ K = 2 ∨ K = 3 by omega) with rfl | rfl | rfl <;> decide
  exact fn_ret (show D_is_bid [some (.v (nD K)), some (.v d)] μ = _ from seq_next (drop_n (c1 (vr rfl) (m_check_things h1 h3 μ))) (ret_v (c2 (vr rfl) (bn (μ2 := μ) (d := nD (2 ^ K)) rfl (sub2 (x := (K : Int)) (y := 1) (vr rfl) rfl) ((x_t _).trans (sz_len h1 h3))) (m_bidsD hk hd μ))))
theorem m_is_bid_bad {d e : D} (hd : okD d = true) (hb : isintD d 1 3 = false) (μ : Mu) : F_is_bid [d, e] μ = .exc e_InvalidNumber μ :=
  fn_exc (show D_is_bid [some (.v d), some (.v e)] μ = _ from seq_exc (drop_exc (c1 (vr rfl) (m_things_bad hd hb μ))))
/-! ### rising -/
def miss (s o : Nat) : List Nat := (tI s).filter fun t => !decide (t ∈ tI o)
def breaks (b : List Int) (s o : Nat) : Bool := decide (miss s o = []) && decide (b.getD o 0 < b.getD s 0)
theorem miss_up : ∀ s, s < 8 → ∀ t, t < 3 → t ∉ tI s → s + 2 ^ t < 8 → miss s (s + 2 ^ t) = [] := by
  have z : ∀ s ∈ List.range 8, ∀ t ∈ List.range 3, t ∉ tI s → s + 2 ^ t < 8 → miss s (s + 2 ^ t) = [] := by decide +kernel
  exact fun s hs t ht => z s (List.mem_range.mpr hs) t (List.mem_range.mpr ht)
theorem miss_step : ∀ s, s < 8 → ∀ o, o < 8 → miss s o = [] → s = o ∨ ∃ t, t < 3 ∧ t ∉ tI s ∧ s + 2 ^ t ≤ o ∧ miss (s + 2 ^ t) o = [] := by
  have z : ∀ s ∈ List.range 8, ∀ o ∈ List.range 8, miss s o = [] → s = o ∨ ∃ t ∈ List.range 3, t ∉ tI s ∧ s + 2 ^ t ≤ o ∧ miss (s + 2 ^ t) o = [] := by decide +kernel
  intro s hs o ho h
  rcases z s (List.mem_range.mpr hs) o (List.mem_range.mpr ho) h with e | ⟨t, ht, r⟩
  · exact .inl e
  · exact .inr ⟨t, List.mem_range.mp ht, r⟩
theorem rises_miss {n : Nat} (hn : n = 2 ∨ n = 4 ∨ n = 8) {b : List Int} (hl : b.length = n) (hr : risesB b = true) : ∀ (d s o : Nat), o - s ≤ d → s < n → o < n → miss s o = [] → b.getD s 0 ≤ b.getD o 0
  | 0, s, o, hd, hs, ho, hm => by
    rcases miss_step s (by omega) o (by omega) hm with rfl | ⟨t, _, _, h, _⟩
    · exact Int.le_refl _
    · have := Nat.two_pow_pos t
      omega
  | d + 1, s, o, hd, hs, ho, hm => by
    rcases miss_step s (by omega) o (by omega) hm with rfl | ⟨t, t3, ht, h, hm'⟩
    · exact Int.le_refl _
    · have tp := Nat.two_pow_pos t
      have ih := rises_miss hn hl hr d (s + 2 ^ t) o (by omega) (by omega) ho hm'
      have q := List.all_eq_true.mp (List.all_eq_true.mp hr s (List.mem_range.mpr (by omega))) t (List.mem_range.mpr t3)
      unfold falls at q
      rw [decide_eq_true (show 2 ^ t < b.length by omega), decide_eq_false ht] at q
      have q : ¬ b.getD (s + 2 ^ t) 0 < b.getD s 0 := by simpa using q
      omega
theorem breaks_rises {n : Nat} (hn : n = 2 ∨ n = 4 ∨ n = 8) {b : List Int} (hl : b.length = n) : ((List.range n).all fun s => (List.range n).all fun o => !breaks b s o) = risesB b := by
  rw [Bool.eq_iff_iff]
  constructor
  · intro h
    refine List.all_eq_true.mpr fun s hs => List.all_eq_true.mpr fun t ht => ?_
    have hs : s < n := by rw [← hl]; exact List.mem_range.mp hs
    have ht := List.mem_range.mp ht
    unfold falls
    by_cases c1 : 2 ^ t < b.length
    · by_cases c2 : t ∈ tI s
      · rw [decide_eq_true c2]
        simp
      · have up := up_in hn hs ht (by omega) c2
        have q := List.all_eq_true.mp (List.all_eq_true.mp h s (List.mem_range.mpr hs)) (s + 2 ^ t) (List.mem_range.mpr up)
        unfold breaks at q
        rw [decide_eq_true (miss_up s (by omega) t ht c2 (by omega))] at q
        have q : ¬ b.getD (s + 2 ^ t) 0 < b.getD s 0 := by simpa using q
        rw [decide_eq_false q]
        simp
    · rw [decide_eq_false c1]
      rfl
  · intro h
    refine List.all_eq_true.mpr fun s hs => List.all_eq_true.mpr fun o ho => ?_
    have hs := List.mem_range.mp hs
    have ho := List.mem_range.mp ho
    unfold breaks
    by_cases c : miss s o = []
    · have := rises_miss hn hl h (o - s) s o (Nat.le_refl _) hs ho c
      rw [decide_eq_false (show ¬ b.getD o 0 < b.getD s 0 by omega), Bool.and_false]
      rfl
    · rw [decide_eq_false c]
      rfl
theorem lst_zG (l : List Nat) : PyData.list (l.map nD) = iL (zG l) := by
  show _ = PyData.list ((l.map fun i : Nat => (i : Int)).map PyData.int)
  rw [List.map_map]
  rfl
theorem eq_nilN (l : List Nat) : pyEq (.list (l.map nD)) (.list []) = some (.bool (decide (l = []))) := by
  rw [lst_zG]
  have q := pe_iL (zG l) []
  rw [decide_eq_decide.mpr (show zG l = [] ↔ l = [] by simp [zG])] at q
  exact q
theorem eq_nilI {α : Type} (l : List α) : pyEq (.list (l.map fun _ => .int 1)) (.list []) = some (.bool (decide (l = []))) := by
  have q := pe_iL (l.map fun _ => 1) []
  rw [decide_eq_decide.mpr (show (l.map fun _ => (1 : Int)) = [] ↔ l = [] by simp)] at q
  rw [← q]
  show pyEq _ _ = pyEq (.list ((l.map fun _ => (1 : Int)).map PyData.int)) _
  rw [List.map_map]
  rfl
/-! ### draws -/
theorem dr_list (ns : List Int) (hn : ns.length ≤ 63) {many : Int} (hm : 0 < many) {α : Type} (en : α → D) {xs : List α} {fi : DI} {tgt : DG} {vs : List Nat} {fe : DE} {sd : Slots} {μ : Mu} {m : Nat} (hT : Town R μ m) (hl : m + xs.length ≤ 9000) (hi : fi sd μ = .ok (xs.map en) μ)
    (h : ∀ x ∈ xs, ∃ sd1, tgt (en x) (wipeD sd vs) = some sd1 ∧ ∀ μ v μ', F__law_draw [scrI ns, tok 0, .int many] μ = .ok (.int v) μ' → fe sd1 μ = .ok (.int v) μ') :
    ∃ (ws : List Int) (μ' : Mu), dLc fi tgt dYes fe vs sd μ = .ok (ws.map .int) μ' ∧ ws.length = xs.length ∧ (∀ v ∈ ws, 0 ≤ v ∧ v < many) ∧ Town R μ' (m + xs.length) := by
  obtain ⟨ws, μ', e, l, r, T⟩ := lcD (tgt := tgt) (fe := fe) (sdw := wipeD sd vs) en 0 many (xs := xs) hT hl fun x hx => by
    obtain ⟨sd1, h1, h2⟩ := h x hx
    refine ⟨sd1, h1, fun μ m hT hm' => ?_⟩
    obtain ⟨v, μ', v1, v2, hv, hT'⟩ := m_draw ns hn hm hT (by omega)
    exact ⟨v, μ', v1, v2, h2 _ _ _ hv, hT'⟩
  refine ⟨ws, μ', ?_, l, r, T⟩
  rw [e_lc, hi, Res.bind_ok, if_pos (by rw [List.length_map]; omega), e]
  rfl
/-- entries written one by one -/
theorem setI_n {i : Nat} {fi fe : DE} {sd : Slots} {μ μ1 μ2 : Mu} {xs : List D} {d : D} {j : Nat} (hs : sd[i]? = some (some (.own xs))) (he : fe sd μ = .ok d μ1) (hi : fi sd μ1 = .ok (nD j) μ2) (hj : j < xs.length) : sSetI i fi fe sd μ = .ok (.next (sd.set i (some (.own (xs.set j d))))) μ2 := by
  unfold sSetI
  rw [hs]
  simp only [he, hi, Res.bind_ok]
  rw [show L2.ixN xs.length (j : Int) = some j by
    unfold L2.ixN
    rw [if_pos (by omega), if_pos (by omega), Int.toNat_natCast]]
theorem set_all {n : Nat} (f : Nat → D) : ∀ k, k ≤ n → ∀ z : D, (List.range k).foldl (fun (L : List D) s => L.set s (f s)) (List.replicate n z) = (List.range k).map f ++ List.replicate (n - k) z
  | 0, _, z => by simp
  | k + 1, hk, z => by
    rw [List.range_succ, List.foldl_append, set_all f k (by omega) z, List.map_append]
    show ((List.range k).map f ++ List.replicate (n - k) z).set k (f k) = _
    rw [List.set_append_right _ _ (by rw [List.length_map, List.length_range]; exact Nat.le_refl _), List.length_map, List.length_range, Nat.sub_self, show n - k = (n - (k + 1)) + 1 by omega, List.replicate_succ, List.set_cons_zero, List.append_assoc]
    rfl
end OL

set_option maxHeartbeats 4000000
/-! OLMir25: equal lists of answers; values that are no rooms; calls by number. -/
namespace OL
open PySem DL
theorem pn_rl {k : Nat} {xs : List D} (h : ∀ x ∈ xs, Lay k x) (hk : k + 1 ≤ 64) (e : PyData.eqvAll xs xs = true) : pyNe (.list xs) (.list xs) = some (.bool false) := by
  have hl : SeqAt.shaped (.list xs) = true := Lay.shaped (Lay.list h) hk
  show (if SeqAt.shaped (.list xs) = true ∧ SeqAt.shaped (.list xs) = true then some (PyData.bool (!PyData.eqv (.list xs) (.list xs))) else none) = _
  rw [if_pos ⟨hl, hl⟩, show PyData.eqv (.list xs) (.list xs) = PyData.eqvAll xs xs by simp [PyData.eqv], e]
  rfl
theorem pe_rl {k : Nat} {xs : List D} (h : ∀ x ∈ xs, Lay k x) (hk : k + 1 ≤ 64) (e : PyData.eqvAll xs xs = true) : pyEq (.list xs) (.list xs) = some (.bool true) := by
  have hl : SeqAt.shaped (.list xs) = true := Lay.shaped (Lay.list h) hk
  show (if SeqAt.shaped (.list xs) = true ∧ SeqAt.shaped (.list xs) = true then some (PyData.bool (PyData.eqv (.list xs) (.list xs))) else none) = _
  rw [if_pos ⟨hl, hl⟩, show PyData.eqv (.list xs) (.list xs) = PyData.eqvAll xs xs by simp [PyData.eqv], e]
theorem eqv_wh (c : Nat) : PyData.eqv (whD c) (whD c) = true := by
  unfold whD
  simp [PyData.eqv, PyData.eqvAll]
theorem eqv_rep {x : D} (h : PyData.eqv x x = true) : ∀ n : Nat, PyData.eqvAll (List.replicate n x) (List.replicate n x) = true
  | 0 => by simp [PyData.eqvAll]
  | n + 1 => by
    rw [List.replicate_succ]
    simp [PyData.eqvAll, h, eqv_rep h n]
/-- so many errors of one kind -/
theorem wh_ne (c n : Nat) : pyNe (.list (List.replicate n (whD c))) (.list (List.replicate n (whD c))) = some (.bool false) :=
  pn_rl (k := 1) (fun x hx => by rw [(List.mem_replicate.mp hx).2]; exact lay_wh c) (by decide) (eqv_rep (eqv_wh c) n)
theorem rep_1 {n : Nat} (x : D) : (List.replicate n [x]).flatten = List.replicate n x := by
  induction n with
  | zero => rfl
  | succ n ih => rw [List.replicate_succ, List.flatten_cons, ih]; rfl
theorem mul_l {fa fb : DE} {sd : Slots} {μ μ1 μ2 : Mu} {x : D} {n : Nat} (ha : fa sd μ = .ok (.list [x]) μ1) (hb : fb sd μ1 = .ok (nD n) μ2) (hn : n ≤ 1000) : dBin pyMul fa fb sd μ = .ok (.list (List.replicate n x)) μ2 := bn ha hb (by
  show (if (0 : Int) ≤ (n : Int) ∧ (n : Int) ≤ 1000 ∧ 1 * ((n : Int)).toNat ≤ 100000 then some (PyData.list (List.replicate ((n : Int)).toNat [x]).flatten) else none) = _
  rw [if_pos (by omega), Int.toNat_natCast, rep_1])
theorem mul_t {fa fb : DE} {sd : Slots} {μ μ1 μ2 : Mu} {x : D} {n : Nat} (ha : fa sd μ = .ok (.tuple [x]) μ1) (hb : fb sd μ1 = .ok (nD n) μ2) (hn : n ≤ 1000) : dBin pyMul fa fb sd μ = .ok (.tuple (List.replicate n x)) μ2 := bn ha hb (by
  show (if [x] ≠ [] ∧ (0 : Int) ≤ (n : Int) ∧ (n : Int) ≤ 1000 ∧ 1 ≤ 1000 then some (PyData.tuple (List.replicate ((n : Int)).toNat [x]).flatten) else none) = _
  rw [if_pos ⟨by simp, by omega, by omega, by omega⟩, Int.toNat_natCast, rep_1])
/-! ### no rooms -/
theorem no_room {ds : List D} (h : ∀ n, n = 2 ∨ n = 4 ∨ n = 8 → ∃ x ∈ ds, bidD n x = false) : roomD (.tuple ds) = false := by
  have z : ∀ n, n = 2 ∨ n = 4 ∨ n = 8 → ds.all (bidD n) = false := fun n hn => by
    obtain ⟨x, hx, e⟩ := h n hn
    rw [List.all_eq_false]
    exact ⟨x, hx, by rw [e]; decide⟩
  show (decide _ && (ds.all (bidD 2) || (ds.all (bidD 4) || ds.all (bidD 8)))) = false
  rw [z 2 (.inl rfl), z 4 (.inr (.inl rfl)), z 8 (.inr (.inr rfl)), Bool.or_false, Bool.or_false, Bool.and_false]
theorem no_room1 {x : D} (h : ∀ n, n = 2 ∨ n = 4 ∨ n = 8 → bidD n x = false) : roomD (.tuple [x]) = false := no_room fun n hn => ⟨x, List.mem_cons_self, h n hn⟩
theorem no_roomL {ds : List D} (h : decide (1 ≤ ds.length ∧ ds.length ≤ 4) = false) : roomD (.tuple ds) = false := by
  show (decide (1 ≤ ds.length ∧ ds.length ≤ 4) && (ds.all (bidD 2) || (ds.all (bidD 4) || ds.all (bidD 8)))) = false
  rw [h, Bool.false_and]
/-- a def that asks for a room first -/
theorem chk_bad {n : Nat} {s : DS} {d : D} {ds : List D} (hd : ok2 d = true) (hb : roomD d = false) (μ : Mu) : fnD n (sSeq (sDrop (dCall F_check_room (aCons (dVar 0) aNil))) s) (d :: ds) μ = .exc e_InvalidRoom μ :=
  fn_exc (seq_exc (drop_exc (c1 (vr rfl) (m_check_roomD hd hb μ))))
theorem pk1 {Fs : List DF} {F : DF} {fi f1 : DE} {sd : Slots} {μ μ1 μ2 : Mu} {i : Nat} {a : D} {r : Res D} (hi : fi sd μ = .ok (nD i) μ1) (hF : Fs[i]? = some F) (ha : f1 sd μ1 = .ok a μ2) (h : F [a] μ2 = r) : dPick Fs fi (aCons f1 aNil) sd μ = r := by
  unfold dPick
  rw [hi, Res.bind_ok]
  show (if (0 : Int) ≤ (i : Int) then _ else _) = _
  rw [if_pos (by omega)]
  show (match Fs[((i : Int)).toNat]? with | some F => _ | none => _) = _
  rw [Int.toNat_natCast, hF]
  show (aCons f1 aNil sd μ1).bind _ = _
  rw [e_aCons, ha]
  exact h
theorem pk2 {Fs : List DF} {F : DF} {fi f1 f2 : DE} {sd : Slots} {μ μ1 μ2 μ3 : Mu} {i : Nat} {a b : D} {r : Res D} (hi : fi sd μ = .ok (nD i) μ1) (hF : Fs[i]? = some F) (ha : f1 sd μ1 = .ok a μ2) (hb : f2 sd μ2 = .ok b μ3) (h : F [a, b] μ3 = r) : dPick Fs fi (aCons f1 (aCons f2 aNil)) sd μ = r := by
  unfold dPick
  rw [hi, Res.bind_ok]
  show (if (0 : Int) ≤ (i : Int) then _ else _) = _
  rw [if_pos (by omega)]
  show (match Fs[((i : Int)).toNat]? with | some F => _ | none => _) = _
  rw [Int.toNat_natCast, hF]
  show (aCons f1 (aCons f2 aNil) sd μ1).bind _ = _
  rw [aE ha (aE hb aN)]
  exact h
end OL

set_option maxHeartbeats 4000000
/-! OLLists (printed by mkall.py): lists of allotments. -/
namespace OL
open PySem DL
theorem raw_3_2_012 : rawA 3 [0, 1, 2] 2 = [[0, 0, 0], [1, 0, 0], [0, 1, 0], [0, 0, 1], [2, 0, 0], [0, 2, 0], [0, 0, 2], [3, 0, 0], [1, 2, 0], [1, 0, 2], [2, 1, 0], [0, 3, 0], [0, 1, 2], [2, 0, 1], [0, 2, 1], [0, 0, 3]] := by decide +kernel
theorem all_3_2_012 : allA 3 [0, 1, 2] 2 = [[0, 0, 0], [0, 0, 1], [0, 0, 2], [0, 0, 3], [0, 1, 0], [0, 1, 2], [0, 2, 0], [0, 2, 1], [0, 3, 0], [1, 0, 0], [1, 0, 2], [1, 2, 0], [2, 0, 0], [2, 0, 1], [2, 1, 0], [3, 0, 0]] := sorted_is (List.isPerm_iff.mp (by rw [raw_3_2_012]; decide +kernel)) (by decide +kernel)
theorem raw_3_2_12 : rawA 3 [1, 2] 2 = [[0, 0, 0], [0, 1, 0], [0, 0, 1], [0, 2, 0], [0, 0, 2], [0, 3, 0], [0, 1, 2], [0, 2, 1], [0, 0, 3]] := by decide +kernel
theorem all_3_2_12 : allA 3 [1, 2] 2 = [[0, 0, 0], [0, 0, 1], [0, 0, 2], [0, 0, 3], [0, 1, 0], [0, 1, 2], [0, 2, 0], [0, 2, 1], [0, 3, 0]] := sorted_is (List.isPerm_iff.mp (by rw [raw_3_2_12]; decide +kernel)) (by decide +kernel)
theorem raw_3_2_02 : rawA 3 [0, 2] 2 = [[0, 0, 0], [1, 0, 0], [0, 0, 1], [2, 0, 0], [0, 0, 2], [3, 0, 0], [1, 0, 2], [2, 0, 1], [0, 0, 3]] := by decide +kernel
theorem all_3_2_02 : allA 3 [0, 2] 2 = [[0, 0, 0], [0, 0, 1], [0, 0, 2], [0, 0, 3], [1, 0, 0], [1, 0, 2], [2, 0, 0], [2, 0, 1], [3, 0, 0]] := sorted_is (List.isPerm_iff.mp (by rw [raw_3_2_02]; decide +kernel)) (by decide +kernel)
theorem raw_3_2_01 : rawA 3 [0, 1] 2 = [[0, 0, 0], [1, 0, 0], [0, 1, 0], [2, 0, 0], [0, 2, 0], [3, 0, 0], [1, 2, 0], [2, 1, 0], [0, 3, 0]] := by decide +kernel
theorem all_3_2_01 : allA 3 [0, 1] 2 = [[0, 0, 0], [0, 1, 0], [0, 2, 0], [0, 3, 0], [1, 0, 0], [1, 2, 0], [2, 0, 0], [2, 1, 0], [3, 0, 0]] := sorted_is (List.isPerm_iff.mp (by rw [raw_3_2_01]; decide +kernel)) (by decide +kernel)
theorem raw_3_2_0 : rawA 3 [0] 2 = [[0, 0, 0], [1, 0, 0], [2, 0, 0], [3, 0, 0]] := by decide +kernel
theorem all_3_2_0 : allA 3 [0] 2 = [[0, 0, 0], [1, 0, 0], [2, 0, 0], [3, 0, 0]] := sorted_is (List.isPerm_iff.mp (by rw [raw_3_2_0]; decide +kernel)) (by decide +kernel)
theorem raw_3_2_1 : rawA 3 [1] 2 = [[0, 0, 0], [0, 1, 0], [0, 2, 0], [0, 3, 0]] := by decide +kernel
theorem all_3_2_1 : allA 3 [1] 2 = [[0, 0, 0], [0, 1, 0], [0, 2, 0], [0, 3, 0]] := sorted_is (List.isPerm_iff.mp (by rw [raw_3_2_1]; decide +kernel)) (by decide +kernel)
theorem raw_3_2_2 : rawA 3 [2] 2 = [[0, 0, 0], [0, 0, 1], [0, 0, 2], [0, 0, 3]] := by decide +kernel
theorem all_3_2_2 : allA 3 [2] 2 = [[0, 0, 0], [0, 0, 1], [0, 0, 2], [0, 0, 3]] := sorted_is (List.isPerm_iff.mp (by rw [raw_3_2_2]; decide +kernel)) (by decide +kernel)
theorem raw_3_2_e : rawA 3 [] 2 = [[0, 0, 0]] := by decide +kernel
theorem all_3_2_e : allA 3 [] 2 = [[0, 0, 0]] := sorted_is (List.isPerm_iff.mp (by rw [raw_3_2_e]; decide +kernel)) (by decide +kernel)
theorem raw_4_2_0123 : rawA 4 [0, 1, 2, 3] 2 = [[0, 0, 0, 0], [1, 0, 0, 0], [0, 1, 0, 0], [0, 0, 1, 0], [0, 0, 0, 1], [2, 0, 0, 0], [0, 2, 0, 0], [0, 0, 2, 0], [0, 0, 0, 2], [3, 0, 0, 0], [1, 2, 0, 0], [1, 0, 2, 0], [1, 0, 0, 2], [2, 1, 0, 0], [0, 3, 0, 0], [0, 1, 2, 0], [0, 1, 0, 2], [2, 0, 1, 0], [0, 2, 1, 0], [0, 0, 3, 0], [0, 0, 1, 2], [2, 0, 0, 1], [0, 2, 0, 1], [0, 0, 2, 1], [0, 0, 0, 3]] := by decide +kernel
theorem all_4_2_0123 : allA 4 [0, 1, 2, 3] 2 = [[0, 0, 0, 0], [0, 0, 0, 1], [0, 0, 0, 2], [0, 0, 0, 3], [0, 0, 1, 0], [0, 0, 1, 2], [0, 0, 2, 0], [0, 0, 2, 1], [0, 0, 3, 0], [0, 1, 0, 0], [0, 1, 0, 2], [0, 1, 2, 0], [0, 2, 0, 0], [0, 2, 0, 1], [0, 2, 1, 0], [0, 3, 0, 0], [1, 0, 0, 0], [1, 0, 0, 2], [1, 0, 2, 0], [1, 2, 0, 0], [2, 0, 0, 0], [2, 0, 0, 1], [2, 0, 1, 0], [2, 1, 0, 0], [3, 0, 0, 0]] := sorted_is (List.isPerm_iff.mp (by rw [raw_4_2_0123]; decide +kernel)) (by decide +kernel)
theorem raw_4_2_123 : rawA 4 [1, 2, 3] 2 = [[0, 0, 0, 0], [0, 1, 0, 0], [0, 0, 1, 0], [0, 0, 0, 1], [0, 2, 0, 0], [0, 0, 2, 0], [0, 0, 0, 2], [0, 3, 0, 0], [0, 1, 2, 0], [0, 1, 0, 2], [0, 2, 1, 0], [0, 0, 3, 0], [0, 0, 1, 2], [0, 2, 0, 1], [0, 0, 2, 1], [0, 0, 0, 3]] := by decide +kernel
theorem all_4_2_123 : allA 4 [1, 2, 3] 2 = [[0, 0, 0, 0], [0, 0, 0, 1], [0, 0, 0, 2], [0, 0, 0, 3], [0, 0, 1, 0], [0, 0, 1, 2], [0, 0, 2, 0], [0, 0, 2, 1], [0, 0, 3, 0], [0, 1, 0, 0], [0, 1, 0, 2], [0, 1, 2, 0], [0, 2, 0, 0], [0, 2, 0, 1], [0, 2, 1, 0], [0, 3, 0, 0]] := sorted_is (List.isPerm_iff.mp (by rw [raw_4_2_123]; decide +kernel)) (by decide +kernel)
theorem raw_4_2_023 : rawA 4 [0, 2, 3] 2 = [[0, 0, 0, 0], [1, 0, 0, 0], [0, 0, 1, 0], [0, 0, 0, 1], [2, 0, 0, 0], [0, 0, 2, 0], [0, 0, 0, 2], [3, 0, 0, 0], [1, 0, 2, 0], [1, 0, 0, 2], [2, 0, 1, 0], [0, 0, 3, 0], [0, 0, 1, 2], [2, 0, 0, 1], [0, 0, 2, 1], [0, 0, 0, 3]] := by decide +kernel
theorem all_4_2_023 : allA 4 [0, 2, 3] 2 = [[0, 0, 0, 0], [0, 0, 0, 1], [0, 0, 0, 2], [0, 0, 0, 3], [0, 0, 1, 0], [0, 0, 1, 2], [0, 0, 2, 0], [0, 0, 2, 1], [0, 0, 3, 0], [1, 0, 0, 0], [1, 0, 0, 2], [1, 0, 2, 0], [2, 0, 0, 0], [2, 0, 0, 1], [2, 0, 1, 0], [3, 0, 0, 0]] := sorted_is (List.isPerm_iff.mp (by rw [raw_4_2_023]; decide +kernel)) (by decide +kernel)
theorem raw_4_2_013 : rawA 4 [0, 1, 3] 2 = [[0, 0, 0, 0], [1, 0, 0, 0], [0, 1, 0, 0], [0, 0, 0, 1], [2, 0, 0, 0], [0, 2, 0, 0], [0, 0, 0, 2], [3, 0, 0, 0], [1, 2, 0, 0], [1, 0, 0, 2], [2, 1, 0, 0], [0, 3, 0, 0], [0, 1, 0, 2], [2, 0, 0, 1], [0, 2, 0, 1], [0, 0, 0, 3]] := by decide +kernel
theorem all_4_2_013 : allA 4 [0, 1, 3] 2 = [[0, 0, 0, 0], [0, 0, 0, 1], [0, 0, 0, 2], [0, 0, 0, 3], [0, 1, 0, 0], [0, 1, 0, 2], [0, 2, 0, 0], [0, 2, 0, 1], [0, 3, 0, 0], [1, 0, 0, 0], [1, 0, 0, 2], [1, 2, 0, 0], [2, 0, 0, 0], [2, 0, 0, 1], [2, 1, 0, 0], [3, 0, 0, 0]] := sorted_is (List.isPerm_iff.mp (by rw [raw_4_2_013]; decide +kernel)) (by decide +kernel)
theorem raw_4_2_012 : rawA 4 [0, 1, 2] 2 = [[0, 0, 0, 0], [1, 0, 0, 0], [0, 1, 0, 0], [0, 0, 1, 0], [2, 0, 0, 0], [0, 2, 0, 0], [0, 0, 2, 0], [3, 0, 0, 0], [1, 2, 0, 0], [1, 0, 2, 0], [2, 1, 0, 0], [0, 3, 0, 0], [0, 1, 2, 0], [2, 0, 1, 0], [0, 2, 1, 0], [0, 0, 3, 0]] := by decide +kernel
theorem all_4_2_012 : allA 4 [0, 1, 2] 2 = [[0, 0, 0, 0], [0, 0, 1, 0], [0, 0, 2, 0], [0, 0, 3, 0], [0, 1, 0, 0], [0, 1, 2, 0], [0, 2, 0, 0], [0, 2, 1, 0], [0, 3, 0, 0], [1, 0, 0, 0], [1, 0, 2, 0], [1, 2, 0, 0], [2, 0, 0, 0], [2, 0, 1, 0], [2, 1, 0, 0], [3, 0, 0, 0]] := sorted_is (List.isPerm_iff.mp (by rw [raw_4_2_012]; decide +kernel)) (by decide +kernel)
theorem raw_4_2_0 : rawA 4 [0] 2 = [[0, 0, 0, 0], [1, 0, 0, 0], [2, 0, 0, 0], [3, 0, 0, 0]] := by decide +kernel
theorem all_4_2_0 : allA 4 [0] 2 = [[0, 0, 0, 0], [1, 0, 0, 0], [2, 0, 0, 0], [3, 0, 0, 0]] := sorted_is (List.isPerm_iff.mp (by rw [raw_4_2_0]; decide +kernel)) (by decide +kernel)
end OL

set_option maxHeartbeats 4000000
/-! OLK18: the mathematics of k18: a package bidder against single ones. -/
namespace OL
open PySem DL
theorem W_eq {r : List (List Int)} {K : Nat} {G : List Nat} {m : Int} {L : List (List Int)} (hL : rawA r.length G K = L) (h1 : ∀ a ∈ L, tot r a ≤ m) (h2 : ∃ a ∈ L, tot r a = m) : W r K G = m := by
  obtain ⟨h3, h4⟩ := W_at r K G
  rw [hL] at h3
  have h5 := h1 _ h3
  rw [h4] at h5
  obtain ⟨a, ha, e⟩ := h2
  rw [← hL] at ha
  have h6 := W_ge ha
  omega
theorem best_eq {r : List (List Int)} {K : Nat} {G : List Nat} {m : Int} {a : List Int} {L : List (List Int)} (hL : allA r.length G K = L) (h : IsBest (tot r) L m a) : bestP r G K = (m, a) := by
  have z := (bestP_is r G K).1
  rw [hL] at z
  obtain ⟨h1, h2⟩ := z.uniq h
  exact Prod.ext h1 h2
namespace K18
def r3 (w f s : Int) : List (List Int) := [[0, 0, 0, w], [0, f, 0, f], [0, 0, s, s]]
def r4 (w f s t : Int) : List (List Int) := [[0, 0, 0, w], [0, f, 0, f], [0, 0, s, s], [0, t, 0, t]]
theorem pack_is (w : Int) : packL 2 3 w = [0, 0, 0, w] := rfl
theorem single_2 (a b : Int) : singleL [a, b] = [maxI [0], maxI [a, 0], maxI [b, 0], maxI [a, b, 0]] := by
  have e : (List.range (2 ^ [a, b].length)).map tI = [[], [0], [1], [0, 1]] := by
    show (List.range 4).map tI = _
    decide
  have e2 : singleL [a, b] = ((List.range (2 ^ [a, b].length)).map tI).map fun T => maxI ((T.map fun t => [a, b].getD t 0) ++ [0]) := by
    unfold singleL
    rw [List.map_map]
    rfl
  rw [e2, e]
  rfl
theorem single_0 (f : Int) (h : 0 ≤ f) : singleL [f, 0] = [0, f, 0, f] := by
  rw [single_2]
  simp only [maxI]
  have : max f 0 = f := by omega
  have : max (0 : Int) 0 = 0 := by omega
  simp [*]
theorem single_1 (f : Int) (h : 0 ≤ f) : singleL [0, f] = [0, 0, f, f] := by
  rw [single_2]
  simp only [maxI]
  have : max f 0 = f := by omega
  have : max 0 f = f := by omega
  have : max (0 : Int) 0 = 0 := by omega
  simp [*]
section
variable {w f s t : Int}
theorem tot3 (a b c : Int) : tot (r3 w f s) [a, b, c] = [0, 0, 0, w].getD a.toNat 0 + ([0, f, 0, f].getD b.toNat 0 + ([0, 0, s, s].getD c.toNat 0 + 0)) := rfl
theorem tot4 (a b c d : Int) : tot (r4 w f s t) [a, b, c, d] = [0, 0, 0, w].getD a.toNat 0 + ([0, f, 0, f].getD b.toNat 0 + ([0, 0, s, s].getD c.toNat 0 + ([0, t, 0, t].getD d.toNat 0 + 0))) := rfl
theorem W12 (hf : 0 ≤ f) (hs : 0 ≤ s) : W (r3 w f s) 2 [1, 2] = f + s := by
  refine W_eq raw_3_2_12 ?_ ⟨[0, 1, 2], by decide, ?_⟩
  · simp only [List.forall_mem_cons, tot3]
    simp
    omega
  · rw [tot3]
    simp
theorem W02 (hw : 0 ≤ w) (hs : 0 ≤ s) : W (r3 w f s) 2 [0, 2] = max w s := by
  by_cases c : s ≤ w
  · refine W_eq raw_3_2_02 ?_ ⟨[3, 0, 0], by decide, ?_⟩
    · simp only [List.forall_mem_cons, tot3]
      simp
      omega
    · rw [tot3]
      simp
      omega
  · refine W_eq raw_3_2_02 ?_ ⟨[0, 0, 2], by decide, ?_⟩
    · simp only [List.forall_mem_cons, tot3]
      simp
      omega
    · rw [tot3]
      simp
      omega
theorem W01 (hw : 0 ≤ w) (hf : 0 ≤ f) : W (r3 w f s) 2 [0, 1] = max w f := by
  by_cases c : f ≤ w
  · refine W_eq raw_3_2_01 ?_ ⟨[3, 0, 0], by decide, ?_⟩
    · simp only [List.forall_mem_cons, tot3]
      simp
      omega
    · rw [tot3]
      simp
      omega
  · refine W_eq raw_3_2_01 ?_ ⟨[0, 1, 0], by decide, ?_⟩
    · simp only [List.forall_mem_cons, tot3]
      simp
      omega
    · rw [tot3]
      simp
      omega
theorem W0 (hw : 0 ≤ w) : W (r3 w f s) 2 [0] = w := by
  refine W_eq raw_3_2_0 ?_ ⟨[3, 0, 0], by decide, ?_⟩
  · simp only [List.forall_mem_cons, tot3]
    simp
    omega
  · rw [tot3]
    simp
theorem W1 (hf : 0 ≤ f) : W (r3 w f s) 2 [1] = f := by
  refine W_eq raw_3_2_1 ?_ ⟨[0, 1, 0], by decide, ?_⟩
  · simp only [List.forall_mem_cons, tot3]
    simp
    omega
  · rw [tot3]
    simp
theorem W2 (hs : 0 ≤ s) : W (r3 w f s) 2 [2] = s := by
  refine W_eq raw_3_2_2 ?_ ⟨[0, 0, 2], by decide, ?_⟩
  · simp only [List.forall_mem_cons, tot3]
    simp
    omega
  · rw [tot3]
    simp
theorem best_win (hf : 0 < f) (hs : 0 < s) (h : w ≤ f + s) : bestP (r3 w f s) [0, 1, 2] 2 = (f + s, [0, 1, 2]) := by
  refine best_eq all_3_2_012 ⟨by decide, by rw [tot3]; simp, ?_, [[0, 0, 0], [0, 0, 1], [0, 0, 2], [0, 0, 3], [0, 1, 0]], _, rfl, ?_⟩
  · simp only [List.forall_mem_cons, tot3]
    simp
    omega
  · simp only [List.forall_mem_cons, tot3]
    simp
    omega
theorem best_lose (hf : 0 < f) (hs : 0 < s) (h : f + s < w) : bestP (r3 w f s) [0, 1, 2] 2 = (w, [3, 0, 0]) := by
  refine best_eq all_3_2_012 ⟨by decide, by rw [tot3]; simp, ?_, [[0, 0, 0], [0, 0, 1], [0, 0, 2], [0, 0, 3], [0, 1, 0], [0, 1, 2], [0, 2, 0], [0, 2, 1], [0, 3, 0], [1, 0, 0], [1, 0, 2], [1, 2, 0], [2, 0, 0], [2, 0, 1], [2, 1, 0]], [], rfl, ?_⟩
  · simp only [List.forall_mem_cons, tot3]
    simp
    omega
  · simp only [List.forall_mem_cons, tot3]
    simp
    omega
end
theorem bid4 {x y z : Int} (h1 : 0 ≤ x) (h2 : 0 ≤ y) (h3 : x ≤ z) (h4 : y ≤ z) (h5 : z ≤ 9) : bidB 4 [0, x, y, z] = true := by
  have hr : risesB [0, x, y, z] = true := by
    refine List.all_eq_true.mpr fun s hs => List.all_eq_true.mpr fun t ht => ?_
    have hs : s = 0 ∨ s = 1 ∨ s = 2 ∨ s = 3 := by have := List.mem_range.mp hs; simp at this; omega
    have ht : t = 0 ∨ t = 1 ∨ t = 2 := by have := List.mem_range.mp ht; omega
    have e0 : tI 0 = [] := by decide
    have e1 : tI 1 = [0] := by decide
    have e2 : tI 2 = [1] := by decide
    have e3 : tI 3 = [0, 1] := by decide
    rcases hs with rfl | rfl | rfl | rfl <;> rcases ht with rfl | rfl | rfl <;> simp [falls, e0, e1, e2, e3] <;> omega
  unfold bidB
  rw [hr]
  simp
  omega
section
variable {w f s t : Int}
theorem rk3 (hw : 1 ≤ w ∧ w ≤ 9) (hf : 1 ≤ f ∧ f ≤ 9) (hs : 1 ≤ s ∧ s ≤ 9) : RK (r3 w f s) 2 := by
  refine ⟨⟨by show 1 ≤ 3; decide, by show 3 ≤ 4; decide, .inr (.inl rfl), fun b hb => ?_⟩, by decide, by decide⟩
  have hb : b = [0, 0, 0, w] ∨ b = [0, f, 0, f] ∨ b = [0, 0, s, s] := by simpa [r3] using hb
  rcases hb with rfl | rfl | rfl
  · exact bid4 (by omega) (by omega) (by omega) (by omega) (by omega)
  · exact bid4 (by omega) (by omega) (by omega) (by omega) (by omega)
  · exact bid4 (by omega) (by omega) (by omega) (by omega) (by omega)
theorem rk4 (hw : 1 ≤ w ∧ w ≤ 9) (hf : 1 ≤ f ∧ f ≤ 9) (hs : 1 ≤ s ∧ s ≤ 9) (ht : 1 ≤ t ∧ t ≤ 9) : RK (r4 w f s t) 2 := by
  refine ⟨⟨by show 1 ≤ 4; decide, by show 4 ≤ 4; decide, .inr (.inl rfl), fun b hb => ?_⟩, by decide, by decide⟩
  have hb : b = [0, 0, 0, w] ∨ b = [0, f, 0, f] ∨ b = [0, 0, s, s] ∨ b = [0, t, 0, t] := by simpa [r4] using hb
  rcases hb with rfl | rfl | rfl | rfl
  · exact bid4 (by omega) (by omega) (by omega) (by omega) (by omega)
  · exact bid4 (by omega) (by omega) (by omega) (by omega) (by omega)
  · exact bid4 (by omega) (by omega) (by omega) (by omega) (by omega)
  · exact bid4 (by omega) (by omega) (by omega) (by omega) (by omega)
/-! three bidders: pays, keeps, the groups -/
theorem W012 (hf : 0 < f) (hs : 0 < s) : W (r3 w f s) 2 [0, 1, 2] = max w (f + s) := by
  by_cases h : w ≤ f + s
  · show (bestP _ _ _).1 = _
    rw [best_win hf hs h]
    show f + s = _
    omega
  · show (bestP _ _ _).1 = _
    rw [best_lose hf hs (by omega)]
    show w = _
    omega
theorem ev3 : everyN (r3 w f s) = [0, 1, 2] := rfl
theorem oth3 : others (r3 w f s).length 0 = [1, 2] ∧ others (r3 w f s).length 1 = [0, 2] ∧ others (r3 w f s).length 2 = [0, 1] := by
  show others 3 0 = [1, 2] ∧ others 3 1 = [0, 2] ∧ others 3 2 = [0, 1]
  decide
structure P3 (w f s p0 p1 p2 k0 k1 k2 : Int) : Prop where
  p0 : pay (r3 w f s) 2 0 = p0
  p1 : pay (r3 w f s) 2 1 = p1
  p2 : pay (r3 w f s) 2 2 = p2
  k0 : keep (r3 w f s) 2 0 = k0
  k1 : keep (r3 w f s) 2 1 = k1
  k2 : keep (r3 w f s) 2 2 = k2
theorem p3_win (hw : 0 < w) (hf : 0 < f) (hs : 0 < s) (h : w ≤ f + s) : P3 w f s 0 (max w s - s) (max w f - f) 0 (f + s - max w s) (f + s - max w f) := by
  have hb := best_win (w := w) hf hs h
  have ht : top (r3 w f s) 2 = f + s := by show (bestP _ [0, 1, 2] _).1 = _; rw [hb]
  have hv : win (r3 w f s) 2 = [0, 1, 2] := by show (bestP _ [0, 1, 2] _).2 = _; rw [hb]
  obtain ⟨o0, o1, o2⟩ := oth3 (w := w) (f := f) (s := s)
  have w12 := W12 (w := w) (f := f) (s := s) (by omega) (by omega)
  have w02 := W02 (w := w) (f := f) (s := s) (by omega) (by omega)
  have w01 := W01 (w := w) (f := f) (s := s) (by omega) (by omega)
  have v0 : val (r3 w f s) [0, 1, 2] 0 = 0 := rfl
  have v1 : val (r3 w f s) [0, 1, 2] 1 = f := rfl
  have v2 : val (r3 w f s) [0, 1, 2] 2 = s := rfl
  constructor
  · unfold pay; rw [o0, hv, ht, v0]; show W _ _ _ - _ = _; rw [w12]; omega
  · unfold pay; rw [o1, hv, ht, v1]; show W _ _ _ - _ = _; rw [w02]; omega
  · unfold pay; rw [o2, hv, ht, v2]; show W _ _ _ - _ = _; rw [w01]; omega
  · rw [keep_eq, o0, ht, w12]; omega
  · rw [keep_eq, o1, ht, w02]
  · rw [keep_eq, o2, ht, w01]
theorem p3_lose (hw : 0 < w) (hf : 0 < f) (hs : 0 < s) (h : f + s < w) : P3 w f s (f + s) 0 0 (w - (f + s)) 0 0 := by
  have hb := best_lose (w := w) hf hs h
  have ht : top (r3 w f s) 2 = w := by show (bestP _ [0, 1, 2] _).1 = _; rw [hb]
  have hv : win (r3 w f s) 2 = [3, 0, 0] := by show (bestP _ [0, 1, 2] _).2 = _; rw [hb]
  obtain ⟨o0, o1, o2⟩ := oth3 (w := w) (f := f) (s := s)
  have w12 := W12 (w := w) (f := f) (s := s) (by omega) (by omega)
  have w02 := W02 (w := w) (f := f) (s := s) (by omega) (by omega)
  have w01 := W01 (w := w) (f := f) (s := s) (by omega) (by omega)
  have v0 : val (r3 w f s) [3, 0, 0] 0 = w := rfl
  have v1 : val (r3 w f s) [3, 0, 0] 1 = 0 := rfl
  have v2 : val (r3 w f s) [3, 0, 0] 2 = 0 := rfl
  constructor
  · unfold pay; rw [o0, hv, ht, v0]; show W _ _ _ - _ = _; rw [w12]; omega
  · unfold pay; rw [o1, hv, ht, v1]; show W _ _ _ - _ = _; rw [w02]; omega
  · unfold pay; rw [o2, hv, ht, v2]; show W _ _ _ - _ = _; rw [w01]; omega
  · rw [keep_eq, o0, ht, w12]
  · rw [keep_eq, o1, ht, w02]; omega
  · rw [keep_eq, o2, ht, w01]; omega
theorem pays3 {p0 p1 p2 k0 k1 k2 : Int} (h : P3 w f s p0 p1 p2 k0 k1 k2) : pays (r3 w f s) 2 = [p0, p1, p2] := by
  show [pay _ _ 0, pay _ _ 1, pay _ _ 2] = _
  rw [h.p0, h.p1, h.p2]
theorem gain3 {p0 p1 p2 k0 k1 k2 : Int} (hw : 0 < w) (hf : 0 < f) (hs : 0 < s) (h : P3 w f s p0 p1 p2 k0 k1 k2) (h0 : RK (r3 w f s) 2) :
    ((grps 3).filter (gainB (r3 w f s) 2)).map zG = ([] ++ (if p0 + (p1 + p2) + k0 < w then [[0]] else []) ++ (if p0 + (p1 + p2) + k1 < f then [[1]] else []) ++ (if p0 + (p1 + p2) + (k0 + k1) < max w f then [[0, 1]] else []) ++ (if p0 + (p1 + p2) + k2 < s then [[2]] else [])
      ++ (if p0 + (p1 + p2) + (k0 + k2) < max w s then [[0, 2]] else []) ++ (if p0 + (p1 + p2) + (k1 + k2) < f + s then [[1, 2]] else []) ++ (if p0 + (p1 + p2) + (k0 + (k1 + k2)) < max w (f + s) then [[0, 1, 2]] else [])) := by
  have e : grps 3 = [[], [0], [1], [0, 1], [2], [0, 2], [1, 2], [0, 1, 2]] := by decide
  have hp := pays3 h
  have w12 := W12 (w := w) (f := f) (s := s) (by omega) (by omega)
  have w02 := W02 (w := w) (f := f) (s := s) (by omega) (by omega)
  have w01 := W01 (w := w) (f := f) (s := s) (by omega) (by omega)
  have w0 := W0 (w := w) (f := f) (s := s) (by omega)
  have w1 := W1 (w := w) (f := f) (s := s) (by omega)
  have w2 := W2 (w := w) (f := f) (s := s) (by omega)
  have w012 := W012 (w := w) hf hs
  have g (G : List Nat) : gainB (r3 w f s) 2 G = decide (p0 + (p1 + p2) + (G.map (keep (r3 w f s) 2)).sum < W (r3 w f s) 2 G) := by
    unfold gainB
    rw [hp]
    simp
  have cons (G : List Nat) (l : List (List Nat)) (p : List Nat → Bool) : ((G :: l).filter p).map zG = (if p G = true then [zG G] else []) ++ (l.filter p).map zG := by
    rw [List.filter_cons]
    split <;> simp
  rw [e]
  simp only [cons, List.filter_nil, List.map_nil, gain_nil h0, g, w12, w02, w01, w0, w1, w2, w012, List.map_cons, h.k0, h.k1, h.k2, List.sum_cons, List.sum_nil, Int.add_zero, decide_eq_true_eq]
  simp [zG]
theorem obj3_win (hw : 0 < w) (hf : 0 < f) (hs : 0 < s) (h : w ≤ f + s) (h0 : RK (r3 w f s) 2) : objL (r3 w f s) 2 = if (max w s - s) + (max w f - f) < w then [[0]] else [] := by
  have g := gain3 hw hf hs (p3_win hw hf hs h) h0
  unfold objL
  show (((grps 3).filter _).map zG).mergeSort leI = _
  rw [g]
  rw [if_neg (show ¬ 0 + (max w s - s + (max w f - f)) + (f + s - max w s) < f by omega), if_neg (show ¬ 0 + (max w s - s + (max w f - f)) + (0 + (f + s - max w s)) < max w f by omega), if_neg (show ¬ 0 + (max w s - s + (max w f - f)) + (f + s - max w f) < s by omega),
    if_neg (show ¬ 0 + (max w s - s + (max w f - f)) + (0 + (f + s - max w f)) < max w s by omega), if_neg (show ¬ 0 + (max w s - s + (max w f - f)) + (f + s - max w s + (f + s - max w f)) < f + s by omega), if_neg (show ¬ 0 + (max w s - s + (max w f - f)) + (0 + (f + s - max w s + (f + s - max w f))) < max w (f + s) by omega)]
  by_cases c : (max w s - s) + (max w f - f) < w
  · rw [if_pos c, if_pos (show 0 + (max w s - s + (max w f - f)) + 0 < w by omega)]
    simp
  · rw [if_neg c, if_neg (show ¬ 0 + (max w s - s + (max w f - f)) + 0 < w by omega)]
    simp
theorem obj3_lose (hw : 0 < w) (hf : 0 < f) (hs : 0 < s) (h : f + s < w) (h0 : RK (r3 w f s) 2) : objL (r3 w f s) 2 = [] := by
  have g := gain3 hw hf hs (p3_lose hw hf hs h) h0
  unfold objL
  show (((grps 3).filter _).map zG).mergeSort leI = _
  rw [g]
  rw [if_neg (show ¬ f + s + (0 + 0) + (w - (f + s)) < w by omega), if_neg (show ¬ f + s + (0 + 0) + 0 < f by omega), if_neg (show ¬ f + s + (0 + 0) + (w - (f + s) + 0) < max w f by omega), if_neg (show ¬ f + s + (0 + 0) + 0 < s by omega),
    if_neg (show ¬ f + s + (0 + 0) + (w - (f + s) + 0) < max w s by omega), if_neg (show ¬ f + s + (0 + 0) + (0 + 0) < f + s by omega), if_neg (show ¬ f + s + (0 + 0) + (w - (f + s) + (0 + 0)) < max w (f + s) by omega)]
  simp
/-! four bidders -/
theorem X123 (hf : 0 ≤ f) (hs : 0 ≤ s) (ht : 0 ≤ t) : W (r4 w f s t) 2 [1, 2, 3] = max f t + s := by
  by_cases c : f ≤ t
  · refine W_eq raw_4_2_123 ?_ ⟨[0, 0, 2, 1], by decide, ?_⟩
    · simp only [List.forall_mem_cons, tot4]
      simp
      omega
    · rw [tot4]
      simp
      omega
  · refine W_eq raw_4_2_123 ?_ ⟨[0, 1, 2, 0], by decide, ?_⟩
    · simp only [List.forall_mem_cons, tot4]
      simp
      omega
    · rw [tot4]
      simp
      omega
theorem X013 (hw : 0 ≤ w) (hf : 0 ≤ f) (ht : 0 ≤ t) : W (r4 w f s t) 2 [0, 1, 3] = max w (max f t) := by
  have : max w (max f t) = w ∨ max w (max f t) = f ∨ max w (max f t) = t := by omega
  rcases this with e | e | e
  · refine W_eq raw_4_2_013 ?_ ⟨[3, 0, 0, 0], by decide, ?_⟩
    · simp only [List.forall_mem_cons, tot4]
      simp
      omega
    · rw [tot4]
      simp
      omega
  · refine W_eq raw_4_2_013 ?_ ⟨[0, 1, 0, 0], by decide, ?_⟩
    · simp only [List.forall_mem_cons, tot4]
      simp
      omega
    · rw [tot4]
      simp
      omega
  · refine W_eq raw_4_2_013 ?_ ⟨[0, 0, 0, 1], by decide, ?_⟩
    · simp only [List.forall_mem_cons, tot4]
      simp
      omega
    · rw [tot4]
      simp
      omega
theorem X0 (hw : 0 ≤ w) : W (r4 w f s t) 2 [0] = w := by
  refine W_eq raw_4_2_0 ?_ ⟨[3, 0, 0, 0], by decide, ?_⟩
  · simp only [List.forall_mem_cons, tot4]
    simp
    omega
  · rw [tot4]
    simp
theorem best4a (hf : 0 < f) (hs : 0 < s) (ht : 0 < t) (c : f ≤ t) (h : w ≤ t + s) : bestP (r4 w f s t) [0, 1, 2, 3] 2 = (t + s, [0, 0, 2, 1]) := by
  refine best_eq all_4_2_0123 ⟨by decide, by rw [tot4]; simp; omega, ?_, [[0, 0, 0, 0], [0, 0, 0, 1], [0, 0, 0, 2], [0, 0, 0, 3], [0, 0, 1, 0], [0, 0, 1, 2], [0, 0, 2, 0]], [[0, 0, 3, 0], [0, 1, 0, 0], [0, 1, 0, 2], [0, 1, 2, 0], [0, 2, 0, 0], [0, 2, 0, 1], [0, 2, 1, 0], [0, 3, 0, 0], [1, 0, 0, 0], [1, 0, 0, 2], [1, 0, 2, 0], [1, 2, 0, 0], [2, 0, 0, 0], [2, 0, 0, 1], [2, 0, 1, 0], [2, 1, 0, 0], [3, 0, 0, 0]], by rfl, ?_⟩
  · simp only [List.forall_mem_cons, tot4]
    simp
    omega
  · simp only [List.forall_mem_cons, tot4]
    simp
    omega
theorem best4b (hf : 0 < f) (hs : 0 < s) (ht : 0 < t) (c : t < f) (h : w ≤ f + s) : bestP (r4 w f s t) [0, 1, 2, 3] 2 = (f + s, [0, 1, 2, 0]) := by
  refine best_eq all_4_2_0123 ⟨by decide, by rw [tot4]; simp, ?_, [[0, 0, 0, 0], [0, 0, 0, 1], [0, 0, 0, 2], [0, 0, 0, 3], [0, 0, 1, 0], [0, 0, 1, 2], [0, 0, 2, 0], [0, 0, 2, 1], [0, 0, 3, 0], [0, 1, 0, 0], [0, 1, 0, 2]], [[0, 2, 0, 0], [0, 2, 0, 1], [0, 2, 1, 0], [0, 3, 0, 0], [1, 0, 0, 0], [1, 0, 0, 2], [1, 0, 2, 0], [1, 2, 0, 0], [2, 0, 0, 0], [2, 0, 0, 1], [2, 0, 1, 0], [2, 1, 0, 0], [3, 0, 0, 0]], by rfl, ?_⟩
  · simp only [List.forall_mem_cons, tot4]
    simp
    omega
  · simp only [List.forall_mem_cons, tot4]
    simp
    omega
end
end K18
end OL

set_option maxHeartbeats 4000000
/-! OLK12: rooms worked out by hand. -/
namespace OL
open PySem DL
theorem raw_2_2_01 : rawA 2 [0, 1] 2 = [[0, 0], [1, 0], [0, 1], [2, 0], [0, 2], [3, 0], [1, 2], [2, 1], [0, 3]] := by decide +kernel
theorem all_2_2_01 : allA 2 [0, 1] 2 = [[0, 0], [0, 1], [0, 2], [0, 3], [1, 0], [1, 2], [2, 0], [2, 1], [3, 0]] := sorted_is (List.isPerm_iff.mp (by rw [raw_2_2_01]; decide +kernel)) (by decide +kernel)
theorem raw_2_1_01 : rawA 2 [0, 1] 1 = [[0, 0], [1, 0], [0, 1]] := by decide +kernel
theorem all_2_1_01 : allA 2 [0, 1] 1 = [[0, 0], [0, 1], [1, 0]] := sorted_is (List.isPerm_iff.mp (by rw [raw_2_1_01]; decide +kernel)) (by decide +kernel)
theorem raw_2_2_0 : rawA 2 [0] 2 = [[0, 0], [1, 0], [2, 0], [3, 0]] := by decide +kernel
theorem all_2_2_0 : allA 2 [0] 2 = [[0, 0], [1, 0], [2, 0], [3, 0]] := sorted_is (List.isPerm_iff.mp (by rw [raw_2_2_0]; decide +kernel)) (by decide +kernel)
theorem raw_2_1_0 : rawA 2 [0] 1 = [[0, 0], [1, 0]] := by decide +kernel
theorem all_2_1_0 : allA 2 [0] 1 = [[0, 0], [1, 0]] := sorted_is (List.isPerm_iff.mp (by rw [raw_2_1_0]; decide +kernel)) (by decide +kernel)
theorem raw_2_2_1 : rawA 2 [1] 2 = [[0, 0], [0, 1], [0, 2], [0, 3]] := by decide +kernel
theorem all_2_2_1 : allA 2 [1] 2 = [[0, 0], [0, 1], [0, 2], [0, 3]] := sorted_is (List.isPerm_iff.mp (by rw [raw_2_2_1]; decide +kernel)) (by decide +kernel)
theorem raw_2_1_1 : rawA 2 [1] 1 = [[0, 0], [0, 1]] := by decide +kernel
theorem all_2_1_1 : allA 2 [1] 1 = [[0, 0], [0, 1]] := sorted_is (List.isPerm_iff.mp (by rw [raw_2_1_1]; decide +kernel)) (by decide +kernel)
namespace K12
open K18
/-! one bidder -/
def r1 (a b : Int) : List (List Int) := [[0, a, b, max a b]]
theorem rk1 {a b : Int} (ha : 1 ≤ a ∧ a ≤ 9) (hb : 1 ≤ b ∧ b ≤ 9) : RK (r1 a b) 2 := by
  refine ⟨⟨by show 1 ≤ 1; decide, by show 1 ≤ 4; decide, .inr (.inl rfl), fun x hx => ?_⟩, by decide, by decide⟩
  have hx : x = [0, a, b, max a b] := by simpa [r1] using hx
  subst hx
  exact bid4 (by omega) (by omega) (by omega) (by omega) (by omega)
theorem W1_0 {a b : Int} (ha : 1 ≤ a ∧ a ≤ 9) (hb : 1 ≤ b ∧ b ≤ 9) : W (r1 a b) 2 [0] = max a b := by
  have e := W_one (rk1 ha hb) (i := 0) (by show 0 < 1; decide)
  rw [e]
  show maxI [0, a, b, max a b] = _
  simp only [maxI]
  omega
theorem pay1 {a b : Int} (ha : 1 ≤ a ∧ a ≤ 9) (hb : 1 ≤ b ∧ b ≤ 9) : pays (r1 a b) 2 = [0] ∧ keeps (r1 a b) 2 = [max a b] ∧ objL (r1 a b) 2 = [] := by
  have h := rk1 ha hb
  have ht : OL.top (r1 a b) 2 = max a b := W1_0 ha hb
  have ho : W (r1 a b) 2 (others (r1 a b).length 0) = 0 := W_nil h
  have hk : keep (r1 a b) 2 0 = max a b := by rw [keep_eq, ht, ho]; omega
  have hv : val (r1 a b) (win (r1 a b) 2) 0 = max a b := by
    have e := tot_sum (r1 a b) (win (r1 a b) 2) win_len
    rw [tot_win, ht] at e
    have e2 : ((List.range (r1 a b).length).map (val (r1 a b) (win (r1 a b) 2))).sum = val (r1 a b) (win (r1 a b) 2) 0 + 0 := rfl
    rw [e2] at e
    omega
  have hp : pay (r1 a b) 2 0 = 0 := by
    unfold pay
    rw [ht, hv]
    show W _ _ (others (r1 a b).length 0) - _ = _
    rw [ho]
    omega
  have hps : pays (r1 a b) 2 = [0] := by show [pay _ _ 0] = _; rw [hp]
  refine ⟨hps, by show [keep _ _ 0] = _; rw [hk], ?_⟩
  have g0 : gainB (r1 a b) 2 [0] = false := by
    unfold gainB
    rw [hps, W1_0 ha hb]
    show decide (([0] : List Int).sum + (keep (r1 a b) 2 0 + 0) < max a b) = false
    rw [hk]
    exact decide_eq_false (by simp)
  unfold objL
  have e : (grps (r1 a b).length).filter (gainB (r1 a b) 2) = [] := by
    show ([[], [0]] : List (List Nat)).filter (gainB (r1 a b) 2) = []
    rw [List.filter_cons, gain_nil h, List.filter_cons, g0]
    rfl
  rw [e]
  simp
/-! two of the same mind -/
def r2 (a : Int) : List (List Int) := [[0, a], [0, a]]
theorem bid2 {x : Int} (h : 0 ≤ x ∧ x ≤ 9) : bidB 2 [0, x] = true := by
  refine bid_mk rfl (fun y hy => ?_) rfl fun s t hs ht c1 c2 => ?_
  · have : y = 0 ∨ y = x := by simpa using hy
    rcases this with rfl | rfl
    · decide
    · exact h
  · have ht0 : t = 0 := by
      rcases (show t = 0 ∨ t = 1 ∨ t = 2 by omega) with e | e | e
      · exact e
      · subst e; simp at c1
      · subst e; simp at c1
    subst ht0
    rcases (show s = 0 ∨ s = 1 by omega) with rfl | rfl
    · exact h.1
    · exact absurd (by decide) c2
theorem rk2 {a : Int} (ha : 0 ≤ a ∧ a ≤ 9) : RK (r2 a) 1 := by
  refine ⟨⟨by show 1 ≤ 2; decide, by show 2 ≤ 4; decide, .inl rfl, fun x hx => ?_⟩, by decide, by decide⟩
  have hx : x = [0, a] := by simpa [r2] using hx
  subst hx
  exact bid2 ha
theorem tot2 (x y u v : Int) : tot [[0, x], [0, y]] [u, v] = [0, x].getD u.toNat 0 + ([0, y].getD v.toNat 0 + 0) := rfl
theorem best2 {x y : Int} (hx : 0 < x) (hy : x ≤ y) : bestP [[0, x], [0, y]] [0, 1] 1 = (y, [0, 1]) := by
  refine best_eq all_2_1_01 ⟨by decide, by rw [tot2]; simp, ?_, [[0, 0]], [[1, 0]], rfl, ?_⟩
  · simp only [List.forall_mem_cons, tot2]
    simp
    omega
  · simp only [List.forall_mem_cons, tot2]
    simp
    omega
theorem best2' {x y : Int} (hx : 0 < y) (hy : y < x) : bestP [[0, x], [0, y]] [0, 1] 1 = (x, [1, 0]) := by
  refine best_eq all_2_1_01 ⟨by decide, by rw [tot2]; simp, ?_, [[0, 0], [0, 1]], [], rfl, ?_⟩
  · simp only [List.forall_mem_cons, tot2]
    simp
    omega
  · simp only [List.forall_mem_cons, tot2]
    simp
    omega
theorem W2_0 {x y : Int} (hx : 0 ≤ x) : W [[0, x], [0, y]] 1 [0] = x := by
  refine W_eq raw_2_1_0 ?_ ⟨[1, 0], by decide, by rw [tot2]; simp⟩
  simp only [List.forall_mem_cons, tot2]
  simp
  omega
theorem W2_1 {x y : Int} (hy : 0 ≤ y) : W [[0, x], [0, y]] 1 [1] = y := by
  refine W_eq raw_2_1_1 ?_ ⟨[0, 1], by decide, by rw [tot2]; simp⟩
  simp only [List.forall_mem_cons, tot2]
  simp
  omega
theorem pay2 {x y : Int} (hx : 0 < x) (hy : x ≤ y) : pays [[0, x], [0, y]] 1 = [0, x] ∧ win [[0, x], [0, y]] 1 = [0, 1] := by
  have hb := best2 hx hy
  have ht : OL.top [[0, x], [0, y]] 1 = y := by show (bestP _ [0, 1] _).1 = _; rw [hb]
  have hv : win [[0, x], [0, y]] 1 = [0, 1] := by show (bestP _ [0, 1] _).2 = _; rw [hb]
  have o0 : others ([[0, x], [0, y]] : List (List Int)).length 0 = [1] := by show others 2 0 = _; decide
  have o1 : others ([[0, x], [0, y]] : List (List Int)).length 1 = [0] := by show others 2 1 = _; decide
  refine ⟨?_, hv⟩
  show [pay _ _ 0, pay _ _ 1] = _
  have p0 : pay [[0, x], [0, y]] 1 0 = 0 := by
    unfold pay
    rw [o0, ht, hv]
    show W _ _ [1] - (y - 0) = 0
    rw [W2_1 (by omega)]
    omega
  have p1 : pay [[0, x], [0, y]] 1 1 = x := by
    unfold pay
    rw [o1, ht, hv]
    show W _ _ [0] - (y - y) = x
    rw [W2_0 (by omega)]
    omega
  rw [p0, p1]
theorem prices2 {a : Int} (ha : 1 ≤ a ∧ a ≤ 9) : pricesL (r2 a) 1 = [[a]] := by
  have hv : win (r2 a) 1 = [0, 1] := (pay2 (x := a) (y := a) (by omega) (Int.le_refl _)).2
  unfold pricesL
  rw [hv]
  rcases (show a = 1 ∨ a = 2 ∨ a = 3 ∨ a = 4 ∨ a = 5 ∨ a = 6 ∨ a = 7 ∨ a = 8 ∨ a = 9 by omega) with rfl | rfl | rfl | rfl | rfl | rfl | rfl | rfl | rfl <;> decide +kernel
/-! the prices of three bidders -/
theorem allP_ent : ∀ (k : Nat), ∀ p ∈ allP k, ∀ x ∈ p, 0 ≤ x ∧ x ≤ 9
  | 0, p, h, x, hx => by
    have : p = [] := by simpa [allP] using h
    rw [this] at hx
    simp at hx
  | k + 1, p, h, x, hx => by
    unfold allP at h
    obtain ⟨q, hq, h⟩ := List.mem_flatMap.mp h
    obtain ⟨o, ho, rfl⟩ := List.mem_map.mp h
    rcases List.mem_append.mp hx with hx | hx
    · exact allP_ent k q hq x hx
    · have : x = (o : Int) := by simpa using hx
      have ho := List.mem_range.mp ho
      omega
theorem most_ge {b p : List Int} {s : Nat} (hs : s < b.length) : b.getD s 0 - priceOf p s ≤ most b p := maxI_ge (List.mem_map.mpr ⟨s, List.mem_range.mpr hs, rfl⟩)
theorem prices3 {w f s : Int} (hw : 1 ≤ w ∧ w ≤ 9) (hf : 1 ≤ f ∧ f ≤ 9) (hs : 1 ≤ s ∧ s ≤ 9) : ∀ p ∈ pricesL (r3 w f s) 2, ∃ x y, p = [x, y] ∧ x ≤ max w f ∧ y ≤ max w s ∧ x + y ≤ max w (f + s) := fun p hp => by
  obtain ⟨hp, hq⟩ := List.mem_filter.mp hp
  have hl := allP_mem 2 p hp
  obtain ⟨x, y, rfl⟩ : ∃ x y, p = [x, y] := by
    match p, hl with
    | [x, y], _ => exact ⟨x, y, rfl⟩
  have ex := allP_ent 2 _ hp x (by simp)
  have ey := allP_ent 2 _ hp y (by simp)
  refine ⟨x, y, rfl, ?_⟩
  have p0 : priceOf [x, y] 0 = 0 := by have : tI 0 = [] := by decide
                                       unfold priceOf; rw [this]; rfl
  have p1 : priceOf [x, y] 1 = x := by have : tI 1 = [0] := by decide
                                       unfold priceOf; rw [this]; show x + 0 = x; omega
  have p2 : priceOf [x, y] 2 = y := by have : tI 2 = [1] := by decide
                                       unfold priceOf; rw [this]; show y + 0 = y; omega
  have p3 : priceOf [x, y] 3 = x + y := by have : tI 3 = [0, 1] := by decide
                                           unfold priceOf; rw [this]; show x + (y + 0) = x + y; omega
  unfold partsB at hq
  simp only [Bool.and_eq_true, List.all_eq_true, decide_eq_true_eq] at hq
  by_cases c : w ≤ f + s
  · have hv : win (r3 w f s) 2 = [0, 1, 2] := by show (bestP _ [0, 1, 2] _).2 = _; rw [best_win (by omega) (by omega) c]
    rw [hv] at hq
    have q1 := hq.2 ([0, f, 0, f], 1) (by simp [r3])
    have q2 := hq.2 ([0, 0, s, s], 2) (by simp [r3])
    have m1 := most_ge (b := [0, f, 0, f]) (p := [x, y]) (s := 0) (by simp)
    have m2 := most_ge (b := [0, 0, s, s]) (p := [x, y]) (s := 0) (by simp)
    have q1 : most [0, f, 0, f] [x, y] ≤ f - priceOf [x, y] 1 := q1
    have q2 : most [0, 0, s, s] [x, y] ≤ s - priceOf [x, y] 2 := q2
    have m1 : 0 - priceOf [x, y] 0 ≤ most [0, f, 0, f] [x, y] := m1
    have m2 : 0 - priceOf [x, y] 0 ≤ most [0, 0, s, s] [x, y] := m2
    omega
  · have hv : win (r3 w f s) 2 = [3, 0, 0] := by show (bestP _ [0, 1, 2] _).2 = _; rw [best_lose (by omega) (by omega) (by omega)]
    rw [hv] at hq
    have q1 := hq.2 ([0, 0, 0, w], 3) (by simp [r3])
    have m1 := most_ge (b := [0, 0, 0, w]) (p := [x, y]) (s := 0) (by simp)
    have q1 : most [0, 0, 0, w] [x, y] ≤ w - priceOf [x, y] 3 := q1
    have m1 : 0 - priceOf [x, y] 0 ≤ most [0, 0, 0, w] [x, y] := m1
    omega
/-! small ones -/
def r5 : List (List Int) := [[0, 3, 4, 5], [0, 2, 2, 2]]
def r6 : List (List Int) := [[0, 3], [0, 5]]
theorem rk5 : RK r5 2 := ⟨⟨by decide, by decide, .inr (.inl rfl), by decide +kernel⟩, by decide, by decide⟩
theorem rk6 : RK r6 1 := ⟨⟨by decide, by decide, .inl rfl, by decide +kernel⟩, by decide, by decide⟩
theorem b5 : bestP r5 [0, 1] 2 = (6, [2, 1]) := best_eq all_2_2_01 ⟨by decide, by decide, by decide, [[0, 0], [0, 1], [0, 2], [0, 3], [1, 0], [1, 2], [2, 0]], [[3, 0]], rfl, by decide⟩
theorem w5_0 : W r5 2 [0] = 5 := W_eq raw_2_2_0 (by decide) (by decide)
theorem w5_1 : W r5 2 [1] = 2 := W_eq raw_2_2_1 (by decide) (by decide)
theorem o2 : others 2 0 = [1] ∧ others 2 1 = [0] := by decide
theorem pay5 : pays r5 2 = [0, 1] ∧ keeps r5 2 = [4, 1] ∧ win r5 2 = [2, 1] := by
  have ht : OL.top r5 2 = 6 := by show (bestP _ [0, 1] _).1 = _; rw [b5]
  have hv : win r5 2 = [2, 1] := by show (bestP _ [0, 1] _).2 = _; rw [b5]
  have p0 : pay r5 2 0 = 0 := by
    unfold pay
    rw [show r5.length = 2 from rfl, o2.1, ht, hv]
    show W _ _ _ - (6 - 4) = _
    rw [w5_1]
    rfl
  have p1 : pay r5 2 1 = 1 := by
    unfold pay
    rw [show r5.length = 2 from rfl, o2.2, ht, hv]
    show W _ _ _ - (6 - 2) = _
    rw [w5_0]
    rfl
  have k0 : keep r5 2 0 = 4 := by
    unfold keep
    rw [hv, p0]
    rfl
  have k1 : keep r5 2 1 = 1 := by
    unfold keep
    rw [hv, p1]
    rfl
  refine ⟨?_, ?_, hv⟩
  · show [pay _ _ 0, pay _ _ 1] = _
    rw [p0, p1]
  · show [keep _ _ 0, keep _ _ 1] = _
    rw [k0, k1]
theorem pay6 : pays r6 1 = [0, 3] ∧ win r6 1 = [0, 1] := pay2 (x := 3) (y := 5) (by decide) (by decide)
theorem prices6 : pricesL r6 1 = [[3], [4], [5]] := by
  unfold pricesL
  rw [pay6.2]
  decide +kernel
theorem calm6 : objL r6 1 = [] ∧ gainB r6 1 [0] = false := by
  have ht : OL.top r6 1 = 5 := by show (bestP _ [0, 1] _).1 = _; rw [show r6 = [[0, 3], [0, 5]] from rfl, best2 (by decide) (by decide)]
  have w0 : W r6 1 [0] = 3 := W2_0 (by decide)
  have w1 : W r6 1 [1] = 5 := W2_1 (by decide)
  have k0 : keep r6 1 0 = 0 := by rw [keep_eq, show r6.length = 2 from rfl, o2.1, ht, w1]; rfl
  have k1 : keep r6 1 1 = 2 := by rw [keep_eq, show r6.length = 2 from rfl, o2.2, ht, w0]; rfl
  have g (G : List Nat) : gainB r6 1 G = decide (3 + (G.map (keep r6 1)).sum < W r6 1 G) := by
    unfold gainB
    rw [pay6.1]
    rfl
  have g0 : gainB r6 1 [0] = false := by
    rw [g, w0]
    show decide (3 + (keep r6 1 0 + 0) < 3) = false
    rw [k0]
    decide
  have g1 : gainB r6 1 [1] = false := by
    rw [g, w1]
    show decide (3 + (keep r6 1 1 + 0) < 5) = false
    rw [k1]
    decide
  have g01 : gainB r6 1 [0, 1] = false := by
    rw [g, show W r6 1 [0, 1] = 5 from ht]
    show decide (3 + (keep r6 1 0 + (keep r6 1 1 + 0)) < 5) = false
    rw [k0, k1]
    decide
  refine ⟨?_, g0⟩
  unfold objL
  have e : (grps r6.length).filter (gainB r6 1) = [] := by
    show ([[], [0], [1], [0, 1]] : List (List Nat)).filter (gainB r6 1) = []
    rw [List.filter_cons, gain_nil rk6, List.filter_cons, g0, List.filter_cons, g1, List.filter_cons, g01]
    rfl
  rw [e]
  simp
theorem kb6 : val r6 (win (r6.set 0 [0, 9]) 1) 0 - pay (r6.set 0 [0, 9]) 1 0 = -2 := by
  have hb := best2' (x := 9) (y := 5) (by decide) (by decide)
  have ht : OL.top (r6.set 0 [0, 9]) 1 = 9 := by show (bestP [[0, 9], [0, 5]] [0, 1] _).1 = _; rw [hb]
  have hv : win (r6.set 0 [0, 9]) 1 = [1, 0] := by show (bestP [[0, 9], [0, 5]] [0, 1] _).2 = _; rw [hb]
  have w1 : W (r6.set 0 [0, 9]) 1 [1] = 5 := W2_1 (x := 9) (y := 5) (by decide)
  unfold pay
  rw [show (r6.set 0 [0, 9]).length = 2 from rfl, o2.1, ht, hv]
  show 3 - (W _ _ _ - (9 - 9)) = _
  rw [w1]
  rfl
end K12
end OL

set_option maxHeartbeats 4000000
/-! OLMir26: bad worths, bad sets; a room without prices. -/
namespace OL
open PySem DL
def worthsD (most : Int) : D → Bool
  | .tuple ds => decide (1 ≤ ds.length ∧ ds.length ≤ 3) && ds.all (fun x => isintD x 0 most)
  | _ => false
theorem m_worths_bad {d : D} {most : Int} (hd : ok1 d = true) (hb : worthsD most d = false) (μ : Mu) : F_check_worths [d, .int most] μ = .exc e_InvalidNumber μ := by
  have nott (h : isTupD d = false) : F_check_worths [d, .int most] μ = .exc e_InvalidNumber μ := by
    refine fn_exc (show D_check_worths [some (.v d), some (.v (.int most)), none] μ = _ from seq_exc (if_t (or_t (nt (x := false) (te ?_))) rfl))
    rw [e_isi, vr rfl, Res.bind_ok, isiT d (ok1_okD hd), h]
    rfl
  have chain (k : Nat) (sd : Slots) (fe : DE) (he : fe sd μ = .ok (nD k) μ) : dTest (dChain (dC (.int 1)) fe (dC (.int 3))) sd μ = .ok (decide (1 ≤ k ∧ k ≤ 3)) μ := by
    simp only [e_test, e_chain, e_c, he, Res.bind_ok, p_le, lift_some, a_b]
    by_cases c1 : 1 ≤ k
    · have c1' : (1 : Int) ≤ (k : Int) := by omega
      by_cases c2 : k ≤ 3
      · have c2' : (k : Int) ≤ 3 := by omega
        simp [c1, c1', c2, c2']
      · have c2' : ¬ (k : Int) ≤ 3 := by omega
        simp [c1, c1', c2, c2']
    · have c1' : ¬ (1 : Int) ≤ (k : Int) := by omega
      simp [c1, c1']
  cases d with
  | tuple ds =>
    have t0 := chain ds.length [some (.v (.tuple ds)), some (.v (.int most)), none] (dCB DL.pyLen (aCons (dVar 0) aNil)) (b1 (vr rfl) (l_t ds μ))
    by_cases c : 1 ≤ ds.length ∧ ds.length ≤ 3
    · rw [decide_eq_true c] at t0
      have hb2 : (decide (1 ≤ ds.length ∧ ds.length ≤ 3) && ds.all (fun x => isintD x 0 most)) = false := hb
      rw [decide_eq_true c, Bool.true_and] at hb2
      have z : dLc (iAny (dVar 0)) (gN 2) dYes (dCall F_is_integer (aCons (dVar 2) (aCons (dC (.int 0)) (aCons (dVar 1) aNil)))) [2] [some (.v (.tuple ds)), some (.v (.int most)), none] μ = .ok (ds.map fun x => .bool (isintD x 0 most)) μ :=
        lcM (fun x => x) (fun x => .bool (isintD x 0 most)) (iAt ((vr rfl).trans (by rw [List.map_id'']; intro x; rfl))) (by omega) fun x hx => ⟨_, rfl, c3 (vr rfl) rfl (vr rfl) (m_isint (List.all_eq_true.mp hd x hx) 0 most μ)⟩
      have t := te (b1 (sh z) (all_map' _ _ μ))
      rw [hb2] at t
      exact fn_exc (show D_check_worths [some (.v (.tuple ds)), some (.v (.int most)), none] μ = _ from seq_next (if_f (or_r (nt (x := true) (te rfl)) (nt t0)) (e_next (μ := μ))) (if_t (nt t) rfl))
    · rw [decide_eq_false c] at t0
      exact fn_exc (show D_check_worths [some (.v (.tuple ds)), some (.v (.int most)), none] μ = _ from seq_exc (if_t (or_r (nt (x := true) (te rfl)) (nt t0)) rfl))
  | dict x => cases hd
  | _ => exact nott rfl
theorem m_sum_bad {d : D} (hd : ok1 d = true) (hb : worthsD 3 d = false) (μ : Mu) : F_sum_bid [d] μ = .exc e_InvalidNumber μ :=
  fn_exc (show D_sum_bid [some (.v d), none, none, none] μ = _ from seq_exc (drop_exc (c2 (vr rfl) rfl (m_worths_bad hd hb μ))))
theorem m_single_bad {d : D} (hd : ok1 d = true) (hb : worthsD 9 d = false) (μ : Mu) : F_single_bid [d] μ = .exc e_InvalidNumber μ :=
  fn_exc (show D_single_bid [some (.v d), none, none, none] μ = _ from seq_exc (drop_exc (c2 (vr rfl) rfl (m_worths_bad hd hb μ))))
theorem m_package_bad1 {d e f : D} (hd : okD d = true) (hb : isintD d 1 3 = false) (μ : Mu) : F_package_bid [d, e, f] μ = .exc e_InvalidNumber μ :=
  fn_exc (show D_package_bid [some (.v d), some (.v e), some (.v f), none] μ = _ from seq_exc (drop_exc (c1 (vr rfl) (m_things_bad hd hb μ))))
theorem m_package_bad2 {K : Nat} (h1 : 1 ≤ K) (h3 : K ≤ 3) {e f : D} (he : okD e = true) (hf : okD f = true) (hb : isintD e 1 (((2 ^ K : Nat) : Int) - 1) = false ∨ isintD f 0 9 = false) (μ : Mu) : F_package_bid [nD K, e, f] μ = .exc e_InvalidNumber μ := by
  have t1 : dTest (dCall F_is_integer (aCons (dVar 1) (aCons (dC (.int 1)) (aCons (dBin pySub (dBin pyIx (dC k_SIZES) (dBin pySub (dVar 0) (dC (.int 1)))) (dC (.int 1))) aNil)))) [some (.v (nD K)), some (.v e), some (.v f), none] μ = .ok (isintD e 1 (((2 ^ K : Nat) : Int) - 1)) μ :=
    te (c3 (vr rfl) rfl (sub2 (x := ((2 ^ K : Nat) : Int)) (y := 1) (bn (μ2 := μ) rfl (sub2 (x := (K : Int)) (y := 1) (vr rfl) rfl) ((x_t _).trans (sz_len h1 h3))) rfl) (m_isint he 1 _ μ))
  have t2 : dTest (dCall F_is_integer (aCons (dVar 2) (aCons (dC (.int 0)) (aCons (dC (.int 9)) aNil)))) [some (.v (nD K)), some (.v e), some (.v f), none] μ = .ok (isintD f 0 9) μ := te (c3 (vr rfl) rfl rfl (m_isint hf 0 9 μ))
  refine fn_exc (show D_package_bid [some (.v (nD K)), some (.v e), some (.v f), none] μ = _ from seq_next (drop_n (c1 (vr rfl) (m_check_things h1 h3 μ))) (seq_exc (if_t ?_ rfl)))
  cases c : isintD e 1 (((2 ^ K : Nat) : Int) - 1) with
  | false =>
    rw [c] at t1
    exact or_t (nt t1)
  | true =>
    rw [c] at t1
    rcases hb with hb | hb
    · rw [c] at hb; cases hb
    · rw [hb] at t2
      exact or_r (nt t1) (nt t2)
/-- a hall is refused -/
theorem m_hall_bad {i d : D} (hd : okD d = true) (hb : isintD d 1 3 = false) (μ : Mu) : F_Hall___init__ [i, d] μ = .exc e_InvalidNumber μ :=
  fn_exc (show D_Hall___init__ [some (.v i), some (.v d)] μ = _ from seq_exc (drop_exc (c1 (vr rfl) (m_things_bad hd hb μ))))
theorem mk_exc {F : DF} {f1 : DE} {sd : Slots} {μ μ1 : Mu} {a : D} {c : Nat} (h1 : f1 sd μ = .ok a μ1) (h : F [tok μ1.length, a] (μ1 ++ [.ins []]) = .exc c (μ1 ++ [.ins []])) : dMake F (aCons f1 aNil) sd μ = .exc c (μ1 ++ [.ins []]) := by
  unfold dMake
  rw [aE h1 aN, Res.bind_ok, h]
  rfl
theorem ifR_t {ft : DT} {fa fb : DE} {sd : Slots} {μ μ1 : Mu} (h : ft sd μ = .ok true μ1) : dIf ft fa fb sd μ = fa sd μ1 := by rw [e_if, h, Res.bind_ok, if_pos rfl]
theorem ifR_f {ft : DT} {fa fb : DE} {sd : Slots} {μ μ1 : Mu} (h : ft sd μ = .ok false μ1) : dIf ft fa fb sd μ = fb sd μ1 := by rw [e_if, h, Res.bind_ok, if_neg Bool.false_ne_true]
/-- two of a kind in the way of one for both -/
def blk : List (List Int) := [[0, 0, 0, 3], [0, 2, 2, 2]]
theorem rk_blk : RK blk 2 := ⟨⟨by decide, by decide, .inr (.inl rfl), by decide +kernel⟩, by decide, by decide⟩
theorem best_blk : bestP blk [0, 1] 2 = (3, [3, 0]) := best_eq all_2_2_01 ⟨by decide, by decide, by decide, [[0, 0], [0, 1], [0, 2], [0, 3], [1, 0], [1, 2], [2, 0], [2, 1]], [], rfl, by decide⟩
theorem win_blk : win blk 2 = [3, 0] := by show (bestP _ [0, 1] _).2 = _; rw [best_blk]
theorem prices_blk : pricesL blk 2 = [] := by
  unfold pricesL
  rw [win_blk]
  decide +kernel
end OL

set_option maxHeartbeats 4000000
/-! OLMir27: halls. -/
namespace OL
open PySem DL
section
variable {fa fb fe : DE} {fs : DA} {sd : Slots} {μ μ1 μ2 μ3 : Mu} {i : Nat} {fl : List (Str × D)} {f m : Str} {v d : D}
theorem fld (ha : fa sd μ = .ok (tok i) μ1) (h : μ1[i]? = some (.ins fl)) (hl : fl.lookup f = some v) : dFld f fa sd μ = .ok v μ1 := by
  unfold dFld
  rw [ha, Res.bind_ok]
  show lift (match μ1[((i : Int)).toNat]? with | some (.ins fs) => fs.lookup f | _ => none) μ1 = _
  rw [Int.toNat_natCast, h]
  show lift (fl.lookup f) μ1 = _
  rw [hl]
  rfl
theorem fldSet (he : fe sd μ = .ok v μ1) (ha : fa sd μ1 = .ok (tok i) μ2) (h : μ2[i]? = some (.ins fl)) (hl : fl.length < 1000) : sFldSet f fa fe sd μ = .ok (.next sd) (μ2.set i (.ins (putD f v fl))) := by
  unfold sFldSet
  rw [he, Res.bind_ok, ha, Res.bind_ok]
  show (match μ2[((i : Int)).toNat]? with | some (.ins fs) => if fs.length < 1000 then Res.ok (Flw.next sd) (μ2.set ((i : Int)).toNat (.ins (putD f v fs))) else .bad | _ => .bad) = _
  rw [Int.toNat_natCast, h]
  show (if fl.length < 1000 then Res.ok (Flw.next sd) (μ2.set i (.ins (putD f v fl))) else .bad) = _
  rw [if_pos hl]
theorem putD_len {f : Str} {v : D} : ∀ fs : List (Str × D), (putD f v fs).length ≤ fs.length + 1
  | [] => Nat.le_refl _
  | (g, x) :: r => by
    unfold putD
    by_cases c : g = f
    · rw [if_pos c, List.length_cons, List.length_cons]; omega
    · rw [if_neg c, List.length_cons, List.length_cons]
      have := putD_len (f := f) (v := v) r
      omega
theorem len_rT (r : List (List Int)) (μ : Mu) : DL.pyLen [rT r] μ = some (nD r.length) := by
  rw [l_t, List.length_map]
theorem isIns_at (h : μ[i]? = some (.ins fl)) (hl : fl.lookup m = none) : isIns (tok i) μ m = true := by
  show (match μ[((i : Int)).toNat]? with | some (.ins fs) => (fs.lookup m).isNone | _ => false) = true
  rw [Int.toNat_natCast, h]
  show (fl.lookup m).isNone = true
  rw [hl]
  rfl
theorem isInsD_at (h : μ[i]? = some (.ins fl)) : isInsD (tok i) μ = true := by
  show (match μ[((i : Int)).toNat]? with | some (.ins _) => true | _ => false) = true
  rw [Int.toNat_natCast, h]
theorem meth {F : DF} {ds : List D} {r : Res D} (ha : fa sd μ = .ok (tok i) μ1) (h : μ1[i]? = some (.ins fl)) (hl : fl.lookup m = none) (hs : fs sd μ1 = .ok ds μ2) (hF : F (tok i :: ds) μ2 = r) : dMeth F m fa fs sd μ = r := by
  unfold dMeth
  rw [ha, Res.bind_ok, if_pos (isIns_at h hl), hs, Res.bind_ok, hF]
theorem mkI {F : DF} {ds : List D} (hs : fs sd μ = .ok ds μ1) (hF : F (tok μ1.length :: ds) (μ1 ++ [.ins []]) = .ok .none μ2) : dMake F fs sd μ = .ok (tok μ1.length) μ2 := by
  unfold dMake
  rw [hs, Res.bind_ok, hF]
  rfl
theorem lenI {F : DF} {n : Int} (ha : fa sd μ = .ok (tok i) μ1) (h : μ1[i]? = some (.ins fl)) (hl : fl.lookup ("__len__" : Str) = none) (hF : F [tok i] μ1 = .ok (.int n) μ2) (hn : 0 ≤ n ∧ n < 1000000) : dLenI F fa sd μ = .ok (.int n) μ2 := by
  unfold dLenI
  rw [ha, Res.bind_ok, if_pos (isIns_at h hl), hF]
  exact if_pos hn
theorem eqI {F : DF} {y : D} (ha : fa sd μ = .ok (tok i) μ1) (hb : fb sd μ1 = .ok y μ2) (h : μ2[i]? = some (.ins fl)) (hk : known y μ2 = true) (hF : F [tok i, y] μ2 = .ok v μ3) : dEqI F fa fb sd μ = .ok v μ3 := by
  unfold dEqI
  rw [ha, Res.bind_ok, hb, Res.bind_ok, if_pos (by rw [isInsD_at h, hk]; rfl), hF]
end
/-! ### a hall -/
abbrev hallF (K : Nat) (r : List (List Int)) (k : Nat) : List (Str × D) := [("things", nD K), ("room", rT r), ("kept", nD k)]
abbrev hallC (K : Nat) (r : List (List Int)) (k : Nat) : Cell := .ins (hallF K r k)
structure Bids (r : List (List Int)) (K : Nat) : Prop where
  k1 : 1 ≤ K
  k3 : K ≤ 3
  bids : ∀ b ∈ r, bidB (2 ^ K) b = true
  most : r.length ≤ 4
theorem size_of {K : Nat} (k1 : 1 ≤ K) (k3 : K ≤ 3) : 2 ^ K = 2 ∨ 2 ^ K = 4 ∨ 2 ^ K = 8 := by rcases (show K = 1 ∨ K = 2 ∨ K = 3 by omega) with rfl | rfl | rfl <;> decide
theorem Bids.rk {r : List (List Int)} {K : Nat} (h : Bids r K) (hr : r ≠ []) : RK r K := ⟨⟨List.length_pos_iff.mpr hr, h.most, size_of h.k1 h.k3, h.bids⟩, h.k1, h.k3⟩
theorem Bids.take {r : List (List Int)} {K : Nat} (h : Bids r K) (n : Nat) : Bids (r.take n) K := ⟨h.k1, h.k3, fun b hb => h.bids b (List.take_subset _ _ hb), Nat.le_trans (List.length_take_le' _ _) h.most⟩
def topH (r : List (List Int)) (K : Nat) : Int := if r = [] then 0 else OL.top r K
section
variable {r : List (List Int)} {K k i : Nat} {μ : Mu}
theorem room_ne (r : List (List Int)) : pyNe (rT r) (.tuple []) = some (.bool (!decide (r = []))) := by
  have hl (r : List (List Int)) : SeqAt.shaped (rT r) = true := Lay.shaped (k := 2) (Lay.tuple fun x hx => by
    obtain ⟨b, _, rfl⟩ := List.mem_map.mp hx
    exact Lay.tuple (Lay.ints b))
  have he : PyData.eqv (rT r) (rT []) = decide (r = []) := by
    show PyData.eqv (.tuple (r.map iT)) (.tuple ([].map iT)) = _
    have := eqv_rows r []
    simp only [PyData.eqv]
    exact this
  show (if SeqAt.shaped (rT r) = true ∧ SeqAt.shaped (rT []) = true then some (PyData.bool (!PyData.eqv (rT r) (rT []))) else none) = _
  rw [if_pos ⟨hl r, hl []⟩, he]
theorem pn_rT (r s : List (List Int)) : pyNe (rT r) (rT s) = some (.bool (!decide (r = s))) := by
  have hl (r : List (List Int)) : SeqAt.shaped (rT r) = true := Lay.shaped (k := 2) (Lay.tuple fun x hx => by
    obtain ⟨b, _, rfl⟩ := List.mem_map.mp hx
    exact Lay.tuple (Lay.ints b))
  have he : PyData.eqv (rT r) (rT s) = decide (r = s) := by
    simp only [PyData.eqv]
    exact eqv_rows r s
  show (if SeqAt.shaped (rT r) = true ∧ SeqAt.shaped (rT s) = true then some (PyData.bool (!PyData.eqv (rT r) (rT s))) else none) = _
  rw [if_pos ⟨hl r, hl s⟩, he]
theorem pe_rT (r s : List (List Int)) : pyEq (rT r) (rT s) = some (.bool (decide (r = s))) := by
  have hl (r : List (List Int)) : SeqAt.shaped (rT r) = true := Lay.shaped (k := 2) (Lay.tuple fun x hx => by
    obtain ⟨b, _, rfl⟩ := List.mem_map.mp hx
    exact Lay.tuple (Lay.ints b))
  have he : PyData.eqv (rT r) (rT s) = decide (r = s) := by
    simp only [PyData.eqv]
    exact eqv_rows r s
  show (if SeqAt.shaped (rT r) = true ∧ SeqAt.shaped (rT s) = true then some (PyData.bool (PyData.eqv (rT r) (rT s))) else none) = _
  rw [if_pos ⟨hl r, hl s⟩, he]
theorem look_t : (hallF K r k).lookup ("things" : Str) = some (nD K) := rfl
theorem look_r : (hallF K r k).lookup ("room" : Str) = some (rT r) := rfl
theorem look_k : (hallF K r k).lookup ("kept" : Str) = some (nD k) := rfl
theorem m_hall (h1 : 1 ≤ K) (h3 : K ≤ 3) : F_Hall___init__ [tok μ.length, nD K] (μ ++ [.ins []]) = .ok .none (μ ++ [hallC K [] 0]) := by
  have at0 (c : Cell) : (μ ++ [c])[μ.length]? = some c := by simp
  have set0 (c c' : Cell) : (μ ++ [c]).set μ.length c' = μ ++ [c'] := by
    rw [List.set_append_right _ _ (Nat.le_refl _), Nat.sub_self]
    rfl
  refine fn_next (sd := [some (.v (tok μ.length)), some (.v (nD K))]) (show D_Hall___init__ [some (.v (tok μ.length)), some (.v (nD K))] _ = _ from ?_)
  refine seq_next (drop_n (c1 (vr rfl) (m_check_things h1 h3 _))) ?_
  refine seq_next (fldSet (vr rfl) (vr rfl) (at0 _) (by decide)) ?_
  rw [set0]
  refine seq_next (fldSet (v := rT []) (tE aN) (vr rfl) (at0 _) (by first | decide | simp | (have := putD_len (f := ("things" : Str)) (v := nD K) []; simp at this; omega) | (refine Nat.lt_of_le_of_lt (putD_len _) ?_; refine Nat.lt_of_le_of_lt (Nat.add_le_add_right (putD_len _) 1) ?_; decide) | (refine Nat.lt_of_le_of_lt (putD_len _) ?_; simp))) ?_
  rw [set0]
  refine (fldSet (v := nD 0) rfl (vr rfl) (at0 _) (by first | decide | simp | (have := putD_len (f := ("things" : Str)) (v := nD K) []; simp at this; omega) | (refine Nat.lt_of_le_of_lt (putD_len _) ?_; refine Nat.lt_of_le_of_lt (Nat.add_le_add_right (putD_len _) 1) ?_; decide) | (refine Nat.lt_of_le_of_lt (putD_len _) ?_; simp))).trans ?_
  rw [set0]
  rfl
theorem m_best_h (h : Bids r K) (hi : μ[i]? = some (hallC K r k)) : F_Hall_best [tok i] μ = .ok (.int (topH r K)) μ := by
  refine fn_ret (show D_Hall_best [some (.v (tok i))] μ = _ from ret_v ?_)
  have fr : dFld "room" (dVar 0) [some (.v (tok i))] μ = .ok (rT r) μ := fld (vr rfl) hi look_r
  have t : dTest (dBin pyNe (dFld "room" (dVar 0)) (dTup aNil)) [some (.v (tok i))] μ = .ok (!decide (r = [])) μ := tb fr (tE aN) (room_ne r)
  unfold topH
  by_cases c : r = []
  · rw [decide_eq_true c] at t
    rw [if_pos c]
    exact ifE_f t rfl
  · rw [decide_eq_false c] at t
    rw [if_neg c]
    have rk := h.rk c
    have := h.most
    exact ifE_t t (bn (c2 fr (c1 fr (m_everyone r (by omega) μ)) (m_best_for rk (grp_all rk) μ)) rfl ((x_t _).trans rfl))
theorem m_bids_h (hi : μ[i]? = some (hallC K r k)) : F_Hall_bids [tok i] μ = .ok (rT r) μ :=
  fn_ret (show D_Hall_bids [some (.v (tok i))] μ = _ from ret_v (fld (vr rfl) hi look_r))
theorem m_len_h (hi : μ[i]? = some (hallC K r k)) : F_Hall___len__ [tok i] μ = .ok (nD r.length) μ :=
  fn_ret (show D_Hall___len__ [some (.v (tok i))] μ = _ from ret_v (b1 (fld (vr rfl) hi look_r) (len_rT r μ)))
theorem set_at {c : Cell} {c' : Cell} (hi : μ[i]? = some c) : (μ.set i c')[i]? = some c' := List.getElem?_set_self (List.getElem?_eq_some_iff.mp hi).1
theorem m_enter (h : Bids r K) (hr : r.length < 4) {b : List Int} (hb : bidB (2 ^ K) b = true) (hi : μ[i]? = some (hallC K r k)) : F_Hall_enter [tok i, iT b] μ = .ok (.int (topH (r ++ [b]) K)) (μ.set i (hallC K (r ++ [b]) k)) := by
  have hs := size_of h.k1 h.k3
  have bl : b.length ≤ 100000 := by
    have : b.length = 2 ^ K := by
      unfold bidB at hb
      simp only [Bool.and_eq_true, decide_eq_true_eq] at hb
      exact hb.1
    omega
  have h' : Bids (r ++ [b]) K := ⟨h.k1, h.k3, fun x hx => by
    rcases List.mem_append.mp hx with hx | hx
    · exact h.bids x hx
    · rw [show x = b by simpa using hx]
      exact hb, by rw [List.length_append]; simp; omega⟩
  refine fn_ret (show D_Hall_enter [some (.v (tok i)), some (.v (iT b))] μ = _ from ?_)
  refine seq_next (if_f (μ1 := μ) (nt (x := true) (te (c2 (vr rfl) (bn (μ2 := μ) (d := nD (2 ^ K)) rfl (sub2 (x := (K : Int)) (y := 1) (fld (vr rfl) hi look_t) rfl) ((x_t _).trans (sz_len h.k1 h.k3))) ((m_bids_for hs b bl μ).trans (by rw [hb]))))) (e_next (μ := μ))) ?_
  refine seq_next (if_f (μ1 := μ) ((tb (f := pyEq) (a := nD r.length) (b := .int 4) (b1 (fld (vr rfl) hi look_r) (len_rT r μ)) rfl p_eq).trans (by rw [decide_eq_false (by omega)])) (e_next (μ := μ))) ?_
  refine seq_next (fldSet (v := rT (r ++ [b])) ((catT (xs := r.map iT) (ys := [iT b]) (fld (vr rfl) hi look_r) (tE (aE (vr rfl) aN)) (by rw [List.length_map]; simp only [List.length_cons, List.length_nil]; omega)).trans (by rw [show r.map iT ++ [iT b] = (r ++ [b]).map iT by rw [List.map_append]; rfl])) (vr rfl) hi (by simp)) ?_
  exact ret_v (meth (vr rfl) (set_at hi) rfl aN (m_best_h (k := k) h' (set_at hi)))
theorem m_undo_0 (hk : r.length = k) (hi : μ[i]? = some (hallC K r k)) : F_Hall_undo [tok i] μ = .exc e_NothingToUndo μ :=
  fn_exc (show D_Hall_undo [some (.v (tok i))] μ = _ from seq_exc (if_t ((tb (f := pyEq) (a := nD r.length) (b := nD k) (b1 (fld (vr rfl) hi look_r) (len_rT r μ)) (fld (vr rfl) hi look_k) p_eq).trans (by rw [decide_eq_true (by omega)])) rfl))
theorem m_undo (h : Bids r K) {n : Nat} (hn : r.length = n + 1) (hk : r.length ≠ k) (hi : μ[i]? = some (hallC K r k)) : F_Hall_undo [tok i] μ = .ok (.int (topH (r.take n) K)) (μ.set i (hallC K (r.take n) k)) := by
  have e : (r.map iT).dropLast = (r.take n).map iT := by
    rw [List.dropLast_eq_take, List.length_map, hn, ← List.map_take]
    rfl
  refine fn_ret (show D_Hall_undo [some (.v (tok i))] μ = _ from ?_)
  refine seq_next (if_f (μ1 := μ) ((tb (f := pyEq) (a := nD r.length) (b := nD k) (b1 (fld (vr rfl) hi look_r) (len_rT r μ)) (fld (vr rfl) hi look_k) p_eq).trans (by rw [decide_eq_false (by omega)])) (e_next (μ := μ))) ?_
  refine seq_next (fldSet (v := rT (r.take n)) ((sltL (fld (vr rfl) hi look_r)).trans (by rw [e])) (vr rfl) hi (by simp)) ?_
  exact ret_v (meth (vr rfl) (set_at hi) rfl aN (m_best_h (k := k) (h.take n) (set_at hi)))
theorem m_dup (h1 : 1 ≤ K) (h3 : K ≤ 3) (hi : μ[i]? = some (hallC K r k)) : F_Hall_duplicate [tok i] μ = .ok (tok μ.length) (μ ++ [hallC K r r.length]) := by
  have lt := (List.getElem?_eq_some_iff.mp hi).1
  have old (c : Cell) : (μ ++ [c])[i]? = some (hallC K r k) := by rw [List.getElem?_append_left lt]; exact hi
  have at0 (c : Cell) : (μ ++ [c])[μ.length]? = some c := by simp
  have set0 (c c' : Cell) : (μ ++ [c]).set μ.length c' = μ ++ [c'] := by
    rw [List.set_append_right _ _ (Nat.le_refl _), Nat.sub_self]
    rfl
  refine fn_ret (show D_Hall_duplicate [some (.v (tok i)), none] μ = _ from ?_)
  refine seq_next (sd' := [some (.v (tok i)), some (.v (tok μ.length))]) (μ' := μ ++ [hallC K [] 0]) ((asg_v (mkI (aE (fld (vr rfl) hi look_t) aN) (m_hall h1 h3))).trans rfl) ?_
  refine seq_next (fldSet (v := rT r) (fld (vr rfl) (old _) look_r) (vr rfl) (at0 _) (by simp)) ?_
  rw [set0]
  refine seq_next (fldSet (v := nD r.length) (b1 (fld (vr rfl) (old _) look_r) (len_rT r _)) (vr rfl) (at0 _) (by first | decide | simp | (have := putD_len (f := ("things" : Str)) (v := nD K) []; simp at this; omega) | (refine Nat.lt_of_le_of_lt (putD_len _) ?_; refine Nat.lt_of_le_of_lt (Nat.add_le_add_right (putD_len _) 1) ?_; decide) | (refine Nat.lt_of_le_of_lt (putD_len _) ?_; simp))) ?_
  rw [set0]
  exact ret_v (vr rfl)
theorem m_eq_h {K' k' j : Nat} {r' : List (List Int)} (hi : μ[i]? = some (hallC K r k)) (hj : μ[j]? = some (hallC K' r' k')) : F_Hall___eq__ [tok i, tok j] μ = .ok (.bool (decide (K = K') && decide (r = r'))) μ := by
  refine fn_ret (show D_Hall___eq__ [some (.v (tok i)), some (.v (tok j))] μ = _ from ret_v ?_)
  have e0 : dIsC (dVar 1) [some (.v (tok i)), some (.v (tok j))] μ = .ok (.bool true) μ := by
    unfold dIsC
    rw [vr rfl, Res.bind_ok, if_pos (by unfold known; rw [isInsD_at hj]; rfl), isInsD_at hj]
  refine andV_r e0 ?_
  have e1 : dBin pyEq (dFld "things" (dVar 0)) (dFld "things" (dVar 1)) [some (.v (tok i)), some (.v (tok j))] μ = .ok (.bool (decide (K = K'))) μ := bn (fld (vr rfl) hi look_t) (fld (vr rfl) hj look_t) (by rw [p_eq]; exact congrArg (fun b => some (PyData.bool b)) (decide_eq_decide.mpr (by omega)))
  by_cases c : K = K'
  · rw [decide_eq_true c] at e1 ⊢
    rw [Bool.true_and]
    exact andV_r e1 (bn (fld (vr rfl) hi look_r) (fld (vr rfl) hj look_r) (pe_rT r r'))
  · rw [decide_eq_false c] at e1 ⊢
    exact andV_f e1
end
end OL

set_option maxHeartbeats 4000000
/-! OLMir28: bidders enter a hall at random. -/
namespace OL
open PySem DL
theorem pe_whT (c : Nat) : pyEq (whD c) (whD c) = some (.bool true) := by
  have hl : SeqAt.shaped (whD c) = true := Lay.shaped (lay_wh c)
  show (if SeqAt.shaped (whD c) = true ∧ SeqAt.shaped (whD c) = true then some (PyData.bool (PyData.eqv (whD c) (whD c))) else none) = _
  rw [if_pos ⟨hl, hl⟩, eqv_wh]
theorem cut_take (xs : List D) (k : Nat) : cutD xs none (some (k : Int)) = xs.take k := by
  by_cases h : k ≤ xs.length
  · exact cut_to h
  · unfold cutD
    have e : HT.sIx xs.length xs.length (some (k : Int)) = xs.length := by
      show (if (k : Int) < 0 then ((k : Int) + (xs.length : Int)).toNat else min (k : Int).toNat xs.length) = _
      rw [if_neg (by omega)]
      omega
    rw [e, HT.sIx_none]
    simp
    rw [List.take_of_length_le (by omega)]
theorem l_range {fe : DE} {sd : Slots} {μ μ1 : Mu} {n : Nat} (h : fe sd μ = .ok (nD n) μ1) (hn : n ≤ 100000) : dShare (lRange fe) sd μ = .ok (.list ((List.range n).map nD)) μ1 := by
  simp only [e_share, e_lRange, h, Res.bind_ok, a_i, Option.bind_some, rgOk_nat hn, lift_some, rg0n]
theorem at_lastL {xs : List D} {d : D} : pyIx (.tuple (xs ++ [d])) (.int (-1)) = some d := by
  show L2.atI (xs ++ [d]) (-1) = some d
  unfold L2.atI L2.ixN
  rw [if_neg (by decide), if_pos (by rw [List.length_append, List.length_singleton]; omega)]
  show (xs ++ [d])[((-1 : Int) + ((xs ++ [d]).length : Int)).toNat]? = some d
  rw [show ((-1 : Int) + ((xs ++ [d]).length : Int)).toNat = xs.length by rw [List.length_append, List.length_singleton]; omega]
  simp
theorem set_same {R : Mu} {j : Nat} {c : Cell} (h : R[j]? = some c) : R.set j c = R := by
  apply List.ext_getElem?
  intro k
  by_cases e : j = k
  · subst e
    rw [List.getElem?_set_self (List.getElem?_eq_some_iff.mp h).1, h]
  · rw [List.getElem?_set_ne e]
theorem c5 {F : DF} {r : Res D} {f1 f2 f3 f4 f5 : DE} {sd : Slots} {a b c d e : D} {μ μ1 μ2 μ3 μ4 μ5 : Mu} (h1 : f1 sd μ = .ok a μ1) (h2 : f2 sd μ1 = .ok b μ2) (h3 : f3 sd μ2 = .ok c μ3) (h4 : f4 sd μ3 = .ok d μ4) (h5 : f5 sd μ4 = .ok e μ5) (h : F [a, b, c, d, e] μ5 = r) : dCall F (aCons f1 (aCons f2 (aCons f3 (aCons f4 (aCons f5 aNil))))) sd μ = r := by
  rw [e_call, aE h1 (aE h2 (aE h3 (aE h4 (aE h5 aN))))]
  exact h
abbrev B_ent : DS := sIf (dTest (dBin pyLt (dCB pyLen (aCons (dVar 5) aNil)) (dC (.int 4)))) (sSeq (sAsg 5 (xV (dBin pyAdd (dVar 5) (dTup (aCons (dCall F__law_some_bid (aCons (dVar 0) (aCons (dVar 1) (aCons (dVar 3) (aCons (dCall F__law_draw (aCons (dVar 0) (aCons (dVar 1) (aCons (dC (.int 4)) aNil)))) aNil))))) aNil)))))
    (sIf (dTest (dBin pyNe (dMeth F_Hall_enter "enter" (dVar 2) (aCons (dBin pyIx (dVar 5) (dUn pyNeg (dC (.int 1)))) aNil)) (dCall F__law_most_for (aCons (dVar 5) (aCons (dShare (lRange (dCB pyLen (aCons (dVar 5) aNil)))) aNil))))) (sRet (dC .none)) sNext)) sNext
abbrev slE (ns : List Int) (i K : Nat) (s4 : Option Sl) (r : List (List Int)) (s6 : Option Sl) : Slots := [some (.v (scrI ns)), some (.v (tok 0)), some (.v (tok i)), some (.v (nD K)), s4, some (.v (rT r)), s6]
theorem topH_most {r : List (List Int)} {K : Nat} (h : Bids r K) (hr : r ≠ []) (μ : Mu) : F__law_most_for [rT r, .list ((List.range r.length).map nD)] μ = .ok (.int (topH r K)) μ := by
  have rk := h.rk hr
  rw [m_most_for rk (G := everyN r) (fun g hg => List.mem_range.mp hg) (gd_list _) μ]
  unfold topH
  rw [if_neg hr]
theorem ent_one (ns : List Int) (hn : ns.length ≤ 63) {R : Mu} {j K k : Nat} (s4 s6 : Option Sl) {r : List (List Int)} (h : Bids r K) {μ : Mu} {m : Nat} (hj : j < R.length) (hT : Town (R.set j (hallC K r k)) μ m) (hm : m ≤ 5000) :
    ∃ r' μ' m', B_ent (slE ns (j + 1) K s4 r s6) μ = .ok (.next (slE ns (j + 1) K s4 r' s6)) μ' ∧ Town (R.set j (hallC K r' k)) μ' m' ∧ m' ≤ m + 11 ∧ Bids r' K ∧ r <+: r' := by
  have hmost := h.most
  have t := lt_b (sd := slE ns (j + 1) K s4 r s6) (f1 := dCB DL.pyLen (aCons (dVar 5) aNil)) (f2 := dC (.int 4)) (x := (r.length : Int)) (y := 4) (μ := μ) (b1 (vr rfl) (len_rT r μ)) rfl
  by_cases c : r.length < 4
  · rw [decide_eq_true (by omega)] at t
    obtain ⟨v, μ1, v1, v2, hv, hT1⟩ := m_draw ns hn (show (0 : Int) < 4 by decide) hT (by omega)
    obtain ⟨b, μ2, m2, eb, ib, hT2, hm2⟩ := m_some_bid ns hn h.k1 h.k3 (kind := v) ⟨v1, v2⟩ hT1 (by omega)
    have hb := ib.ok (size_of h.k1 h.k3)
    have h' : Bids (r ++ [b]) K := ⟨h.k1, h.k3, fun x hx => by
      rcases List.mem_append.mp hx with hx | hx
      · exact h.bids x hx
      · rw [show x = b by simpa using hx]
        exact hb, by rw [List.length_append]; simp; omega⟩
    obtain ⟨zs, rfl, hz⟩ := hT2
    have hi : (Cell.lst zs :: R.set j (hallC K r k))[j + 1]? = some (hallC K r k) := by
      rw [List.getElem?_cons_succ, List.getElem?_set_self hj]
    have hset : (Cell.lst zs :: R.set j (hallC K r k)).set (j + 1) (hallC K (r ++ [b]) k) = .lst zs :: R.set j (hallC K (r ++ [b]) k) := by
      rw [List.set_cons_succ, List.set_set]
    have ent := m_enter h c hb hi
    rw [hset] at ent
    refine ⟨r ++ [b], _, m2, if_t t ?_, ⟨zs, rfl, hz⟩, by omega, h', List.prefix_append _ _⟩
    refine seq_next (sd' := slE ns (j + 1) K s4 (r ++ [b]) s6) (μ' := .lst zs :: R.set j (hallC K r k)) ((asg_v ((catT (xs := r.map iT) (ys := [iT b]) (vr rfl) (tE (aE (c4 (vr rfl) (vr rfl) (vr rfl) (c3 (vr rfl) (vr rfl) rfl hv) eb) aN)) (by rw [List.length_map]; simp only [List.length_cons, List.length_nil]; omega)).trans (by rw [show r.map iT ++ [iT b] = (r ++ [b]).map iT by rw [List.map_append]; rfl]))).trans rfl) ?_
    have ix : pyIx (rT (r ++ [b])) (.int (-1)) = some (iT b) := by
      rw [show rT (r ++ [b]) = .tuple (r.map iT ++ [iT b]) from congrArg PyData.tuple List.map_append]
      exact at_lastL
    refine if_f (μ1 := .lst zs :: R.set j (hallC K (r ++ [b]) k)) (ne_f (a := .int (topH (r ++ [b]) K)) (b := .int (topH (r ++ [b]) K)) (meth (fl := hallF K r k) (vr rfl) hi rfl (aE (bn (vr rfl) (neg_of (i := 1) rfl) ix) aN) ent) (c2 (vr rfl) (l_range (b1 (vr rfl) (len_rT _ _)) (by rw [List.length_append]; simp; omega)) (topH_most h' (by simp) _)) (by rw [p_ne, decide_eq_true rfl]; rfl)) (e_next (μ := _))
  · rw [decide_eq_false (by omega)] at t
    exact ⟨r, μ, m, if_f t (e_next (μ := μ)), hT, by omega, h, List.prefix_rfl⟩
theorem m_entered (ns : List Int) (hn : ns.length ≤ 63) {R : Mu} {j K k : Nat} {r0 : List (List Int)} (h : Bids r0 K) {μ : Mu} {m : Nat} (hj : R[j]? = some (hallC K r0 k)) (hT : Town R μ m) (hm : m ≤ 4000) :
    ∃ r' μ' m', F__law_entered [scrI ns, tok 0, tok (j + 1), nD K, rT r0] μ = .ok (rT r') μ' ∧ Town (R.set j (hallC K r' k)) μ' m' ∧ m' ≤ m + 40 ∧ Bids r' K ∧ r0 <+: r' := by
  obtain ⟨v, μ1, v1, v2, hv, hT1⟩ := m_draw ns hn (show (0 : Int) < 4 by decide) hT (by omega)
  have hlt := (List.getElem?_eq_some_iff.mp hj).1
  rw [← set_same hj] at hT1
  obtain ⟨sd', μ', hf, r', m', hT', hm', hb', hp', x6, rfl⟩ := for_all (tgt := gN 6) (fb := B_ent) (fun l sd μ => ∃ r m', Town (R.set j (hallC K r k)) μ m' ∧ m' + 11 * l.length ≤ m + 40 ∧ Bids r K ∧ r0 <+: r ∧ ∃ x6, sd = slE ns (j + 1) K (some (.v (rT r0))) r x6) (fun d l sd μ ⟨r, m', hT, hm', hb, hp, x6, e⟩ => by
    subst e
    rw [List.length_cons] at hm'
    obtain ⟨r', μ', m2, e, hT2, hm2, hb2, hp2⟩ := ent_one ns hn (some (.v (rT r0))) (some (.v d)) hb hlt hT (by omega)
    exact ⟨_, _, _, rfl, e, r', m2, hT2, by omega, hb2, hp.trans hp2, _, rfl⟩) (ds := (List.range v.toNat).map nD) (sd := slE ns (j + 1) K (some (.v (rT r0))) r0 none) (μ := μ1) ⟨r0, _, hT1, by rw [List.length_map, List.length_range]; omega, h, List.prefix_rfl, _, rfl⟩
  refine ⟨r', μ', m', fn_ret (show D__law_entered [some (.v (scrI ns)), some (.v (tok 0)), some (.v (tok (j + 1))), some (.v (nD K)), some (.v (rT r0)), none, none] μ = _ from ?_), hT', by simp at hm'; omega, hb', hp'⟩
  refine seq_next (sd' := slE ns (j + 1) K (some (.v (rT r0))) r0 none) (μ' := μ) rfl ?_
  refine seq_next (for_s (ds := (List.range v.toNat).map nD) (iR (n := v.toNat) (c3 (vr rfl) (vr rfl) rfl (by rw [hv, show nD v.toNat = .int v from congrArg PyData.int (by omega)])) (by omega)) hf) ?_
  exact ret_v (vr rfl)
end OL

set_option maxHeartbeats 4000000
/-! OLMir29: texts of rooms. -/
namespace OL
open PySem DL SX
/-- the sign of a digit, back -/
def dg (x : Int) : Nat := 48 + x.toNat
def ud (c : Nat) : Int := (c : Int) - 48
def wd (b : List Int) : List Nat := b.map dg
def tx (r : List (List Int)) : List Nat := TL.joinL [32] (r.map wd)
def un (w : List Nat) : List Int := w.map ud
theorem dig10 {x : Int} (h : 0 ≤ x ∧ x ≤ 9) : x = 0 ∨ x = 1 ∨ x = 2 ∨ x = 3 ∨ x = 4 ∨ x = 5 ∨ x = 6 ∨ x = 7 ∨ x = 8 ∨ x = 9 := by omega
theorem str_dig {x : Int} (h : 0 ≤ x ∧ x ≤ 9) : pyStr (.int x) = some (.str (S [dg x])) := by
  rcases dig10 h with rfl | rfl | rfl | rfl | rfl | rfl | rfl | rfl | rfl | rfl <;> rfl
theorem int_dig {c : Nat} (h : 48 ≤ c ∧ c ≤ 57) : pyIntS (.str (S [c])) = some (.int (ud c)) := by
  have : c = 48 ∨ c = 49 ∨ c = 50 ∨ c = 51 ∨ c = 52 ∨ c = 53 ∨ c = 54 ∨ c = 55 ∨ c = 56 ∨ c = 57 := by omega
  have key : intText? (S [c]) = some (ud c) := by
    rcases this with rfl | rfl | rfl | rfl | rfl | rfl | rfl | rfl | rfl | rfl <;> decide +kernel
  unfold pyIntS
  show (if (S [c]).length ≤ 640 then (intText? (S [c])).map PyData.int else none) = _
  rw [S_len, if_pos (by simp), key]
  rfl
theorem join_nil : ∀ b : List Nat, TL.joinL [] (b.map fun c => [c]) = b
  | [] => rfl
  | [c] => rfl
  | c :: d :: r => by
    show [c] ++ ([] ++ TL.joinL [] ((d :: r).map fun c => [c])) = _
    rw [join_nil (d :: r)]
    rfl
theorem jn {a : List Nat} {ys : List (List Nat)} (h : (ys.map (·.length)).sum + ys.length * a.length ≤ 16777216) : pyJoin (.str (S a)) (.list (ys.map fun y => .str (S y))) = some (.str (S (TL.joinL a ys))) := by
  have e : asStrs (ys.map fun y => PyData.str (S y)) = some (ys.map S) := by
    have := asStrs_of (ys.map S)
    rw [List.map_map] at this
    exact this
  show (asStrs (ys.map fun y => PyData.str (S y))).bind _ = _
  rw [e]
  show (if ((ys.map S).map (·.length)).sum + (ys.map S).length * (S a).length ≤ 16777216 then some (PyData.str (Txt.join (S a) (ys.map S))) else none) = _
  rw [lens, List.length_map, S_len, if_pos h, join_S]
theorem sm_of {f : D → D → Option D} {fa fb : DE} {sd : Slots} {μ μ1 μ2 : Mu} {x : Str} {e v : D} (ha : fa sd μ = .ok (.str x) μ1) (hb : fb sd μ1 = .ok e μ2) (h : f (.str x) e = some v) : dSm f fa fb sd μ = .ok v μ2 := by
  unfold dSm
  rw [ha, Res.bind_ok, if_pos (show isStrD (.str x) = true from rfl), hb, Res.bind_ok, h]
  rfl
theorem sum_le {α : Type} (f : α → Nat) (m : Nat) : ∀ l : List α, (∀ x ∈ l, f x ≤ m) → (l.map f).sum ≤ l.length * m
  | [], _ => by simp
  | x :: l, h => by
    have := sum_le f m l fun y hy => h y (List.mem_cons_of_mem _ hy)
    have := h x List.mem_cons_self
    rw [List.map_cons, List.sum_cons, List.length_cons, Nat.succ_mul]
    omega
structure Digs (r : List (List Int)) : Prop where
  small : r.length ≤ 4
  len : ∀ b ∈ r, b.length ≤ 8
  rng : ∀ b ∈ r, ∀ x ∈ b, 0 ≤ x ∧ x ≤ 9
theorem m_text_of {r : List (List Int)} (h : Digs r) (μ : Mu) : F_text_of [rT r] μ = .ok (.str (S (tx r))) μ := by
  refine fn_ret (show D_text_of [some (.v (rT r)), none, none] μ = _ from ret_v ?_)
  have inner (b : List Int) (hb : b ∈ r) : dSm pyJoin (dC (.str "")) (dShare (dLc (iAny (dVar 1)) (gN 2) dYes (dUn pyStr (dVar 2)) [2])) [some (.v (rT r)), some (.v (iT b)), none] μ = .ok (.str (S (wd b))) μ := by
    have z : dLc (iAny (dVar 1)) (gN 2) dYes (dUn pyStr (dVar 2)) [2] [some (.v (rT r)), some (.v (iT b)), none] μ = .ok (b.map fun x => .str (S [dg x])) μ :=
      lcM PyData.int (fun x => .str (S [dg x])) (iAt (vr rfl)) (by have := h.len b hb; omega) fun x hx => ⟨_, rfl, by rw [e_un, vr rfl, Res.bind_ok, str_dig (h.rng b hb x hx)]; rfl⟩
    have e : b.map (fun x => PyData.str (S [dg x])) = ((wd b).map fun c => [c]).map fun y => PyData.str (S y) := by
      unfold wd
      rw [List.map_map, List.map_map]
      rfl
    have hl := h.len b hb
    have j := jn (a := []) (ys := (wd b).map fun c => [c]) (by
      rw [List.map_map]
      have := sum_le ((fun x : List Nat => x.length) ∘ fun c : Nat => [c]) 1 (wd b) (fun _ _ => Nat.le_refl _)
      have hw : (wd b).length ≤ 8 := by unfold wd; rw [List.length_map]; exact hl
      simp only [List.length_nil, Nat.mul_zero, Nat.add_zero]
      omega)
    rw [join_nil] at j
    rw [e] at z
    exact sm_of (x := S []) rfl (sh z) j
  have z : dLc (iAny (dVar 0)) (gN 1) dYes (dSm pyJoin (dC (.str "")) (dShare (dLc (iAny (dVar 1)) (gN 2) dYes (dUn pyStr (dVar 2)) [2]))) [1] [some (.v (rT r)), none, none] μ = .ok (r.map fun b => .str (S (wd b))) μ :=
    lcM iT (fun b => .str (S (wd b))) (iAt (vr rfl)) (by have := h.small; omega) fun b hb => ⟨_, rfl, inner b hb⟩
  have e : r.map (fun b => PyData.str (S (wd b))) = (r.map wd).map fun y => PyData.str (S y) := by
    rw [List.map_map]
    rfl
  rw [e] at z
  have hs := h.small
  exact sm_of (x := S [32]) rfl (sh z) (jn (a := [32]) (by
    have := sum_le (fun x : List Nat => x.length) 8 (r.map wd) (fun y hy => by
      obtain ⟨b, hb, rfl⟩ := List.mem_map.mp hy
      unfold wd
      rw [List.length_map]
      exact h.len b hb)
    rw [List.length_map] at this ⊢
    simp only [List.length_cons, List.length_nil]
    omega))
theorem RK.digs {r : List (List Int)} {K : Nat} (h : RK r K) : Digs r := ⟨h.len, fun b hb => by
    have := h.room.len hb
    have := pow_le8 h.k3
    omega, fun b hb x hx => by
    have z := h.room.bids b hb
    unfold bidB at z
    simp only [Bool.and_eq_true, decide_eq_true_eq, List.all_eq_true] at z
    exact z.2.1 x hx⟩
theorem m_format {r : List (List Int)} {K : Nat} (h : RK r K) (μ : Mu) : F_format_room [rT r] μ = .ok (.str (S (tx r))) μ :=
  fn_ret (show D_format_room [some (.v (rT r))] μ = _ from seq_next (drop_n (c1 (vr rfl) (m_check_room h.room μ))) (ret_v (c1 (vr rfl) (m_text_of h.digs μ))))
/-! ### texts read -/
theorem spl_all {P : Nat → Prop} : ∀ (a acc : List Nat), (∀ c ∈ acc, P c) → (∀ c ∈ a, c = 32 ∨ P c) → ∀ w ∈ TL.spl [32] 0 acc a, ∀ c ∈ w, P c
  | [], acc, h, _, w, hw => by
    have : w = acc := by simpa [TL.spl] using hw
    subst this
    exact h
  | x :: r, acc, h, ha, w, hw => by
    unfold TL.spl at hw
    have hr : ∀ c ∈ r, c = 32 ∨ P c := fun c hc => ha c (List.mem_cons_of_mem _ hc)
    by_cases e : x = 32
    · subst e
      rw [if_pos (by simp [TL.pre])] at hw
      rcases List.mem_cons.mp hw with rfl | hw
      · exact h
      · exact spl_all r [] (fun c hc => by simp at hc) hr w hw
    · rw [if_neg (by simp [TL.pre, e])] at hw
      refine spl_all r (acc ++ [x]) (fun c hc => ?_) hr w hw
      rcases List.mem_append.mp hc with hc | hc
      · exact h c hc
      · rw [show c = x by simpa using hc]
        exact (ha x List.mem_cons_self).resolve_left e
theorem spl_len : ∀ (a acc : List Nat), (TL.spl [32] 0 acc a).length ≤ a.length + 1 ∧ ∀ w ∈ TL.spl [32] 0 acc a, w.length ≤ acc.length + a.length
  | [], acc => by simp [TL.spl]
  | x :: r, acc => by
    unfold TL.spl
    by_cases e : x = 32
    · subst e
      rw [if_pos (by simp [TL.pre])]
      obtain ⟨h1, h2⟩ := spl_len r []
      refine ⟨by rw [List.length_cons, List.length_cons]; exact Nat.succ_le_succ h1, fun w hw => ?_⟩
      rcases List.mem_cons.mp hw with rfl | hw
      · omega
      · have := h2 w hw
        simp only [List.length_nil, List.length_cons] at this ⊢
        omega
    · rw [if_neg (by simp [TL.pre, e])]
      obtain ⟨h1, h2⟩ := spl_len r (acc ++ [x])
      refine ⟨by rw [List.length_cons]; omega, fun w hw => ?_⟩
      have := h2 w hw
      rw [List.length_append] at this
      simp only [List.length_cons, List.length_nil] at this ⊢
      omega
def okSign (c : Nat) : Bool := decide (c ∈ [48, 49, 50, 51, 52, 53, 54, 55, 56, 57, 32])
theorem ok_sign {c : Nat} (h : okSign c = true) : c = 32 ∨ (48 ≤ c ∧ c ≤ 57) := by
  have h : c ∈ [48, 49, 50, 51, 52, 53, 54, 55, 56, 57, 32] := of_decide_eq_true h
  simp only [List.mem_cons, List.not_mem_nil, or_false] at h
  omega
/-- the room that a text says -/
def rd (a : List Nat) : List (List Int) := (TL.spl [32] 0 [] a).map un
abbrev T_sg : DT := dTest (dCB pyAll (aCons (dShare (dLc (iAny (dVar 0)) (gN 1) dYes (dBin pyIn (dVar 1) (dBin pyAdd (dC k_DIGITS) (dC (.str " ")))) [1])) aNil))
theorem signs (a : List Nat) (ha : a.length ≤ 100000) (μ : Mu) : T_sg [some (.v (.str (S a))), none, none, none] μ = .ok (a.all okSign) μ := by
  have z : dLc (iAny (dVar 0)) (gN 1) dYes (dBin pyIn (dVar 1) (dBin pyAdd (dC k_DIGITS) (dC (.str " ")))) [1] [some (.v (.str (S a))), none, none, none] μ = .ok (a.map fun c => .bool (okSign c)) μ :=
    lcM (fun c => PyData.str (S [c])) (fun c => .bool (okSign c)) (by rw [e_iAny, vr rfl]; rfl) (by omega) fun c hc => ⟨_, rfl, bn (b := .str ("0123456789" ++ " ")) (vr rfl) (bn (μ1 := μ) (μ2 := μ) rfl rfl rfl) (by rfl)⟩
  exact te (b1 (sh z) (all_map' _ _ μ))
theorem m_parse (a : List Nat) (ha : a.length ≤ 1000) (hs : a.all okSign = true) (μ : Mu) : F_parse_room [.str (S a)] μ = if roomB (rd a) = true then .ok (rT (rd a)) μ else .exc e_ParseError μ := by
  have t := signs a (by omega) μ
  rw [hs] at t
  have hw := spl_all (P := fun c => 48 ≤ c ∧ c ≤ 57) a [] (fun c hc => by simp at hc) (fun c hc => ok_sign (List.all_eq_true.mp hs c hc))
  obtain ⟨l1, l2⟩ := spl_len a []
  have sp : dSm pySplit (dVar 0) (dC (.str " ")) [some (.v (.str (S a))), none, none, none] μ = .ok (.list ((TL.spl [32] 0 [] a).map fun w => .str (S w))) μ := by
    refine sm_of (vr rfl) rfl ?_
    show (if ((S [32]).length == 0) = false ∧ (S a).length + 2 ≤ sizeLine then some (PyData.list ((Txt.split (S a) (S [32])).map .str)) else none) = _
    rw [if_pos ⟨rfl, by rw [S_len, sizeLine_eq]; omega⟩, split_S (by decide) (by decide), List.map_map]
    rfl
  have inner (w : List Nat) (hww : w ∈ TL.spl [32] 0 [] a) (s2 : Option Sl) : dCB pyTuple (aCons (dShare (dLc (iAny (dVar 3)) (gN 1) dYes (dUn pyIntS (dVar 1)) [1])) aNil) [some (.v (.str (S a))), none, s2, some (.v (.str (S w)))] μ = .ok (iT (un w)) μ := by
    have z : dLc (iAny (dVar 3)) (gN 1) dYes (dUn pyIntS (dVar 1)) [1] [some (.v (.str (S a))), none, s2, some (.v (.str (S w)))] μ = .ok (w.map fun c => .int (ud c)) μ :=
      lcM (fun c => PyData.str (S [c])) (fun c => .int (ud c)) (by rw [e_iAny, vr rfl]; rfl) (by have := l2 w hww; simp at this; omega) fun c hc => ⟨_, rfl, by rw [e_un, vr rfl, Res.bind_ok, int_dig (hw w hww c hc)]; rfl⟩
    exact b1 (sh z) (by show some (PyData.tuple _) = some (PyData.tuple _); unfold un; rw [List.map_map]; rfl)
  have zz : dLc (iAny (dSm pySplit (dVar 0) (dC (.str " ")))) (gN 3) dYes (dCB pyTuple (aCons (dShare (dLc (iAny (dVar 3)) (gN 1) dYes (dUn pyIntS (dVar 1)) [1])) aNil)) [3] [some (.v (.str (S a))), none, none, none] μ = .ok ((TL.spl [32] 0 [] a).map fun w => iT (un w)) μ :=
    lcM (fun w => PyData.str (S w)) (fun w => iT (un w)) (iA sp) (by omega) fun w hww => ⟨_, rfl, inner w hww none⟩
  have er : rT (rd a) = .tuple ((TL.spl [32] 0 [] a).map fun w => iT (un w)) := by
    unfold rd
    show PyData.tuple _ = _
    rw [List.map_map]
    rfl
  have ir : F_is_room [rT (rd a)] μ = .ok (.bool (roomB (rd a))) μ := m_is_room (by unfold rd; rw [List.length_map]; omega) (fun b hb => by
    obtain ⟨w, hww, rfl⟩ := List.mem_map.mp hb
    have := l2 w hww
    unfold un
    rw [List.length_map]
    simp at this
    omega) μ
  have body : ∀ r, sSeq (sIf (dNot (dTest (dCall F_is_room (aCons (dVar 2) aNil)))) (sRaise e_ParseError) sNext) (sRet (dVar 2)) [some (.v (.str (S a))), none, some (.v (rT (rd a))), none] μ = r → D_parse_room [some (.v (.str (S a))), none, none, none] μ = r := fun r h =>
    seq_next (if_f (μ1 := μ) (or_f (nt (x := true) (te rfl)) (nt (x := true) t)) (e_next (μ := μ))) (seq_next (sd' := [some (.v (.str (S a))), none, some (.v (rT (rd a))), none]) (μ' := μ) ((asg_v (d := rT (rd a)) (b1 (sh zz) (by rw [er]; rfl))).trans rfl) h)
  cases c : roomB (rd a) with
  | true =>
    rw [c] at ir
    rw [if_pos rfl]
    exact fn_ret (body _ (seq_next (if_f (μ1 := μ) (nt (x := true) (te (c1 (vr rfl) ir))) (e_next (μ := μ))) (ret_v (vr rfl))))
  | false =>
    rw [c] at ir
    rw [if_neg Bool.false_ne_true]
    exact fn_exc (body _ (seq_exc (if_t (nt (x := false) (te (c1 (vr rfl) ir))) rfl)))
theorem ud_dg {x : Int} (h : 0 ≤ x ∧ x ≤ 9) : ud (dg x) = x := by
  unfold ud dg
  omega
theorem un_wd {b : List Int} (h : ∀ x ∈ b, 0 ≤ x ∧ x ≤ 9) : un (wd b) = b := by
  unfold un wd
  rw [List.map_map]
  exact (List.map_congr_left fun x hx => ud_dg (h x hx)).trans (List.map_id b)
theorem dg_rng {x : Int} (h : 0 ≤ x ∧ x ≤ 9) : 48 ≤ dg x ∧ dg x ≤ 57 := by
  unfold dg
  omega
theorem rd_tx {r : List (List Int)} (h : Digs r) (hr : r ≠ []) : rd (tx r) = r := by
  unfold rd tx
  rw [TL.spl_join (by simpa using hr) fun p hp => by
    obtain ⟨b, hb, rfl⟩ := List.mem_map.mp hp
    intro hc
    obtain ⟨x, hx, e⟩ := List.mem_map.mp hc
    have := dg_rng (h.rng b hb x hx)
    omega]
  rw [List.map_map]
  exact (List.map_congr_left fun b hb => un_wd (h.rng b hb)).trans (List.map_id r)
theorem join_mem {c : Nat} : ∀ {ps : List (List Nat)}, c ∈ TL.joinL [32] ps → c = 32 ∨ ∃ p ∈ ps, c ∈ p
  | [], h => by simp [TL.joinL] at h
  | [p], h => .inr ⟨p, List.mem_cons_self, h⟩
  | p :: q :: r, h => by
    have h : c ∈ p ++ ([32] ++ TL.joinL [32] (q :: r)) := h
    rcases List.mem_append.mp h with h | h
    · exact .inr ⟨p, List.mem_cons_self, h⟩
    · rcases List.mem_append.mp h with h | h
      · exact .inl (by simpa using h)
      · rcases join_mem h with h | ⟨p', hp, hc⟩
        · exact .inl h
        · exact .inr ⟨p', List.mem_cons_of_mem _ hp, hc⟩
theorem join_len (m : Nat) : ∀ {ps : List (List Nat)}, (∀ p ∈ ps, p.length ≤ m) → (TL.joinL [32] ps).length ≤ ps.length * (m + 1)
  | [], _ => by simp [TL.joinL]
  | [p], h => by
    have := h p List.mem_cons_self
    simp only [TL.joinL, List.length_cons, List.length_nil]
    omega
  | p :: q :: r, h => by
    have ih := join_len m (ps := q :: r) fun p hp => h p (List.mem_cons_of_mem _ hp)
    have := h p List.mem_cons_self
    show (p ++ ([32] ++ TL.joinL [32] (q :: r))).length ≤ _
    rw [List.length_append, List.length_append, List.length_cons (a := p), Nat.succ_mul]
    simp only [List.length_cons, List.length_nil] at ih ⊢
    omega
theorem tx_ok {r : List (List Int)} (h : Digs r) : (tx r).all okSign = true ∧ (tx r).length ≤ 36 := by
  constructor
  · refine List.all_eq_true.mpr fun c hc => decide_eq_true ?_
    rcases join_mem hc with rfl | ⟨p, hp, hc⟩
    · decide
    · obtain ⟨b, hb, rfl⟩ := List.mem_map.mp hp
      obtain ⟨x, hx, rfl⟩ := List.mem_map.mp hc
      have := dg_rng (h.rng b hb x hx)
      simp only [List.mem_cons, List.not_mem_nil, or_false]
      omega
  · have := join_len 8 (ps := r.map wd) fun p hp => by
      obtain ⟨b, hb, rfl⟩ := List.mem_map.mp hp
      unfold wd
      rw [List.length_map]
      exact h.len b hb
    have hs := h.small
    rw [List.length_map] at this
    unfold tx
    omega
/-- a room's text, read again -/
theorem m_parse_tx {r : List (List Int)} {K : Nat} (h : RK r K) (μ : Mu) : F_parse_room [.str (S (tx r))] μ = .ok (rT r) μ := by
  have hr : r ≠ [] := by intro e; have := h.room.one; rw [e] at this; simp at this
  obtain ⟨t1, t2⟩ := tx_ok h.digs
  rw [m_parse (tx r) (by omega) t1 μ, rd_tx h.digs hr, if_pos h.room.ok]
/-! ### a hall's text -/
theorem m_str_h {r : List (List Int)} {K k i : Nat} {μ : Mu} (h : Bids r K) (hi : μ[i]? = some (hallC K r k)) : F_Hall___str__ [tok i] μ = .ok (.str (if r = [] then "empty" else S (tx r))) μ := by
  have fr : dFld "room" (dVar 0) [some (.v (tok i))] μ = .ok (rT r) μ := fld (vr rfl) hi look_r
  have t : dTest (dBin pyEq (dFld "room" (dVar 0)) (dTup aNil)) [some (.v (tok i))] μ = .ok (decide (r = [])) μ := tb (b := rT []) fr (tE aN) (pe_rT r [])
  by_cases c : r = []
  · rw [decide_eq_true c] at t
    rw [if_pos c]
    exact fn_ret (show D_Hall___str__ [some (.v (tok i))] μ = _ from seq_ret (if_t t (ret_v rfl)))
  · rw [decide_eq_false c] at t
    rw [if_neg c]
    exact fn_ret (show D_Hall___str__ [some (.v (tok i))] μ = _ from seq_next (if_f t (e_next (μ := μ))) (ret_v (by rw [e_un, c1 fr (m_text_of (h.rk c).digs μ)]; rfl)))
theorem strI_of {F : DF} {fa : DE} {sd : Slots} {μ μ1 μ2 : Mu} {i : Nat} {fl : List (Str × D)} {x : Str} (ha : fa sd μ = .ok (tok i) μ1) (h : μ1[i]? = some (.ins fl)) (hF : F [tok i] μ1 = .ok (.str x) μ2) : dStrI F fa sd μ = .ok (.str x) μ2 := by
  unfold dStrI
  rw [ha, Res.bind_ok, if_pos (isInsD_at h), hF]
theorem m_pay_h {r : List (List Int)} {K k i : Nat} {μ : Mu} (h : Bids r K) (hi : μ[i]? = some (hallC K r k)) : F_Hall_payments [tok i] μ = .ok (iL (if r = [] then [] else pays r K)) μ := by
  have fr : dFld "room" (dVar 0) [some (.v (tok i))] μ = .ok (rT r) μ := fld (vr rfl) hi look_r
  have t : dTest (dBin pyNe (dFld "room" (dVar 0)) (dTup aNil)) [some (.v (tok i))] μ = .ok (!decide (r = [])) μ := tb fr (tE aN) (room_ne r)
  refine fn_ret (show D_Hall_payments [some (.v (tok i))] μ = _ from ret_v ?_)
  by_cases c : r = []
  · rw [decide_eq_true c] at t
    rw [if_pos c]
    exact ifE_f t (lE aN)
  · rw [decide_eq_false c] at t
    rw [if_neg c]
    exact ifE_t t (bn (c1 fr (m_outcome (h.rk c) μ)) rfl ((x_t _).trans rfl))
end OL

set_option maxHeartbeats 4000000
/-! OLMir32: texts compared. -/
namespace OL
open PySem DL OL SX
theorem lay_S {a : List Nat} (h : ∀ c ∈ a, c < 1000) : Lay 0 (.str (S a)) := ⟨by
  rw [PyData.canLay0]
  show (S a).cps.all (· < 0x110000) = true
  rw [← Array.all_toList]
  show a.all (fun c => decide (c < 0x110000)) = true
  exact List.all_eq_true.mpr fun c hc => decide_eq_true (by have := h c hc; omega), by simp [PyData.depth]⟩
theorem pn_str {x : Str} (h : Lay 0 (.str x)) : pyNe (.str x) (.str x) = some (.bool false) := by
  have hl : SeqAt.shaped (.str x) = true := h.shaped
  show (if SeqAt.shaped (.str x) = true ∧ SeqAt.shaped (.str x) = true then some (PyData.bool (!PyData.eqv (.str x) (.str x))) else none) = _
  rw [if_pos ⟨hl, hl⟩, show PyData.eqv (.str x) (.str x) = true by simp [PyData.eqv]]
  rfl
theorem pe_str {x : Str} (h : Lay 0 (.str x)) : pyEq (.str x) (.str x) = some (.bool true) := by
  have hl : SeqAt.shaped (.str x) = true := h.shaped
  show (if SeqAt.shaped (.str x) = true ∧ SeqAt.shaped (.str x) = true then some (PyData.bool (PyData.eqv (.str x) (.str x))) else none) = _
  rw [if_pos ⟨hl, hl⟩, show PyData.eqv (.str x) (.str x) = true by simp [PyData.eqv]]
theorem tx_lay {r : List (List Int)} (h : Digs r) : Lay 0 (.str (S (tx r))) := lay_S fun c hc => by
  have := ok_sign (List.all_eq_true.mp (tx_ok h).1 c hc)
  omega
end OL

set_option maxHeartbeats 4000000
/-! LW_k14: the law k14 is true at every script. -/
namespace OL.K14
open PySem DL OL
section
variable {r : List (List Int)} {K : Nat}
/-- the prices that are asked -/
abbrev askP (K : Nat) : List Int := List.replicate (K - 1) 2 ++ [1]
abbrev toldL (r : List (List Int)) (K : Nat) : List D := [iL (pays r K), iL (keeps r K), rL (objL r K), .list [iT (win r K), .bool (partsB r K (win r K) (askP K))]]
theorem m_told (h : RK r K) (μ : Mu) : F__law_told [rT r] μ = .ok (.list (toldL r K)) μ := by
  have k1 := h.k1
  have k3 := h.k3
  refine fn_ret (show D__law_told [some (.v (rT r)), none] μ = _ from seq_next (sd' := [some (.v (rT r)), some (.v (iT (askP K)))]) (μ' := μ) ((asg_v (d := iT (askP K)) ?_).trans rfl) (ret_v (lE (ds := toldL r K) (aE (c1 (vr rfl) (m_payments h μ)) (aE (c1 (vr rfl) (m_kept h μ)) (aE (c1 (vr rfl) (m_objecting h μ)) (aE (lE (ds := [iT (win r K), .bool (partsB r K (win r K) (askP K))]) (aE (c1 (vr rfl) (m_best_allotment h μ)) (aE (c2 (vr rfl) (vr rfl) (m_do_part h ?_ ?_ μ)) aN))) aN)))))))
  · have e : pyIdx (.list [.int 2, .int 4, .int 8]) (nD (2 ^ K)) = some (.int ((K : Int) - 1)) := by
      have hk : K = 1 ∨ K = 2 ∨ K = 3 := by omega
      rcases hk with rfl | rfl | rfl <;> rfl
    have ix : dIdx (dShare (dLst (aCons (dC (.int 2)) (aCons (dC (.int 4)) (aCons (dC (.int 8)) aNil))))) (dCB DL.pyLen (aCons (dBin pyIx (dVar 0) (dC (.int 0))) aNil)) [some (.v (rT r)), none] μ = .ok (.int ((K : Int) - 1)) μ := by
      unfold dIdx
      rw [lst3, Res.bind_ok, if_pos (show isList (.list [PyData.int 2, .int 4, .int 8]) = true from rfl), len_row0' h _ 0 rfl μ, Res.bind_ok, e]
      rfl
    have m : pyMul (.tuple [.int 2]) (.int ((K : Int) - 1)) = some (.tuple ((List.replicate (K - 1) 2).map PyData.int)) := by
      have hk : K = 1 ∨ K = 2 ∨ K = 3 := by omega
      rcases hk with rfl | rfl | rfl <;> rfl
    refine bn (bn (tE (aE rfl aN)) ix m) (tE (aE rfl aN)) ?_
    rw [pAddT (by rw [List.length_map, List.length_replicate]; simp only [List.length_cons, List.length_nil]; omega)]
    show _ = some (PyData.tuple ((askP K).map PyData.int))
    rw [List.map_append]
    rfl
  · rw [List.length_append, List.length_replicate, List.length_singleton]
    omega
  · intro x hx
    rcases List.mem_append.mp hx with hx | hx
    · have := (List.mem_replicate.mp hx).2
      omega
    · have : x = 1 := by simpa using hx
      omega
theorem Lay.up {k j : Nat} {d : D} (h : Lay k d) (hk : k ≤ j) : Lay j d := ⟨h.1, Nat.le_trans h.2 hk⟩
theorem lay_told : Lay 3 (.list (toldL r K)) := Lay.list fun x hx => by
  simp only [toldL, List.mem_cons, List.not_mem_nil, or_false] at hx
  rcases hx with rfl | rfl | rfl | rfl
  · exact Lay.up (Lay.list (Lay.ints _)) (by decide)
  · exact Lay.up (Lay.list (Lay.ints _)) (by decide)
  · exact Lay.list (Lay.rows _)
  · refine Lay.list fun y hy => ?_
    simp only [List.mem_cons, List.not_mem_nil, or_false] at hy
    rcases hy with rfl | rfl
    · exact Lay.tuple (Lay.ints _)
    · exact Lay.up (Lay.bool _) (by decide)
theorem eqv_told : PyData.eqv (.list (toldL r K)) (.list (toldL r K)) = true := by
  have e1 : ∀ b : List Int, PyData.eqv (iL b) (iL b) = true := fun b => by
    show PyData.eqvAll (b.map .int) (b.map .int) = true
    rw [eqv_ints, decide_eq_true rfl]
  have e2 : ∀ b : List (List Int), PyData.eqv (rL b) (rL b) = true := fun b => by
    show PyData.eqvAll (b.map iT) (b.map iT) = true
    rw [eqv_rows, decide_eq_true rfl]
  have e3 : ∀ b : List Int, PyData.eqv (iT b) (iT b) = true := fun b => by
    show PyData.eqvAll (b.map .int) (b.map .int) = true
    rw [eqv_ints, decide_eq_true rfl]
  have e4 : PyData.eqv (.list [iT (win r K), .bool (partsB r K (win r K) (askP K))]) (.list [iT (win r K), .bool (partsB r K (win r K) (askP K))]) = true := by
    show (PyData.eqv (iT (win r K)) (iT (win r K)) && (PyData.eqv (.bool (partsB r K (win r K) (askP K))) (.bool (partsB r K (win r K) (askP K))) && true)) = true
    rw [e3]
    cases partsB r K (win r K) (askP K) <;> rfl
  show (PyData.eqv (iL (pays r K)) (iL (pays r K)) && (PyData.eqv (iL (keeps r K)) (iL (keeps r K)) && (PyData.eqv (rL (objL r K)) (rL (objL r K)) && (PyData.eqv (.list [iT (win r K), .bool (partsB r K (win r K) (askP K))]) (.list [iT (win r K), .bool (partsB r K (win r K) (askP K))]) && true)))) = true
  rw [e1, e1, e2, e4]
  rfl
theorem nol_ints (b : List Int) : noLA (b.map PyData.int) = true := by
  induction b with
  | nil => simp [noLA]
  | cons x b ih => simp [noLA, noL, ih]
theorem nol_rows (b : List (List Int)) : noLA (b.map iT) = true := by
  induction b with
  | nil => simp [noLA]
  | cons x b ih => simp [noLA, noL, ih, nol_ints]
theorem nol_zero (m : Nat) : noLA (List.replicate m (PyData.int 0)) = true := by
  induction m with
  | zero => simp [noLA]
  | succ m ih => simp [List.replicate_succ, noLA, noL, ih]
theorem keep_nol {d : D} (h : noL d = true) : keepNL (some (.v d)) = some (.v d) := by
  show (if noL d = true then some (Sl.v d) else none) = _
  rw [if_pos h]
theorem obj_len (h : RK r K) : (objL r K).length ≤ 16 := by
  unfold objL
  rw [List.length_mergeSort, List.length_map]
  have a := List.length_filter_le (gainB r K) (grps r.length)
  have b := grps_len r.length
  have c : 2 ^ r.length ≤ 2 ^ 4 := Nat.pow_le_pow_right (by decide) h.len
  omega
end
abbrev slL (ns : List Int) (s2 s3 s4 s5 s6 s7 s8 : Option Sl) : Slots := [some (.v (scrI ns)), some (.v (tok 0)), s2, s3, s4, s5, s6, s7, s8]
theorem law_true (ns : List Int) (hn : ns.length ≤ 63) : ∃ μ', F_law [scr (ns.map .int)] [] = .ok (.bool true) μ' := by
  suffices hh : ∃ μ', D_law [some (.v (scrI ns)), none, none, none, none, none, none, none, none] [] = .ok (.ret (.bool true)) μ' from let ⟨μ', hh⟩ := hh; ⟨μ', fn_ret hh⟩
  obtain ⟨r, K, μ1, m1, h, hr4, hroom, hT1, hm1⟩ := m_some_room ns hn (most := 3) (by decide) (by decide) (μ := [.lst []]) (m := 0) (R := []) ⟨[], rfl, rfl⟩ (by decide)
  obtain ⟨r2, K2, μ2, m2, h2, hr42, hroom2, ⟨zs, rfl, hz⟩, hm2⟩ := m_some_room ns hn (most := 3) (by decide) (by decide) hT1 (by omega)
  let μH : Mu := [.lst zs, hallC 1 [[0, 4]] 0]
  have hB : Bids [[0, 4]] 1 := ⟨by decide, by decide, by decide +kernel, by decide⟩
  have at1 : μH[1]? = some (hallC 1 [[0, 4]] 0) := rfl
  have rk4 : RK [[0, 4]] 1 := hB.rk (by decide)
  have pz : pays [[0, 4]] 1 = [0] := by
    unfold pays everyN
    show [pay [[0, 4]] 1 0] = [0]
    rw [pay_alone rk4 rfl]
  let sdA (x7 x8 : Option Sl) : Slots := slL ns (some (.v (rT r))) (some (.v (rT r2))) (some (.v (.list (toldL r K)))) (some (.v (.list (toldL r2 K2)))) (some (.v (tok 1))) x7 x8
  refine ⟨μH, ?_⟩
  unfold D_law
  refine seq_next (sd' := [some (.v (scrI ns)), some (.own []), none, none, none, none, none, none, none]) (μ' := []) rfl (keep_next rfl ?_)
  refine seq_next (sd' := slL ns (some (.v (rT r))) (some (.v (rT r2))) none none none none none) (μ' := [.lst zs]) ?_ ?_
  · rw [e_par, e_xV, c3 (vr rfl) (vr rfl) rfl hroom, Res.bind_ok, Res.bind_ok, e_xV, c3 (vr rfl) (vr rfl) rfl hroom2]
    rfl
  refine seq_next (sd' := slL ns (some (.v (rT r))) (some (.v (rT r2))) (some (.v (.list (toldL r K)))) none none none none) (μ' := [.lst zs]) ((asg_v (c1 (vr rfl) (m_told h _))).trans rfl) ?_
  refine seq_next (sd' := slL ns (some (.v (rT r))) (some (.v (rT r2))) (some (.v (.list (toldL r K)))) (some (.v (.list (toldL r2 K2)))) none none none) (μ' := [.lst zs]) ((asg_v (c1 (vr rfl) (m_told h2 _))).trans rfl) ?_
  have mk : dMake F_Hall___init__ (aCons (dC (.int 1)) aNil) (slL ns (some (.v (rT r))) (some (.v (rT r2))) (some (.v (.list (toldL r K)))) (some (.v (.list (toldL r2 K2)))) none none none) [.lst zs] = .ok (tok 1) [.lst zs, hallC 1 [] 0] := mkI (μ1 := [.lst zs]) (aE rfl aN) (m_hall (μ := [.lst zs]) (K := 1) (by decide) (by decide))
  refine seq_next (sd' := sdA none none) (μ' := [.lst zs, hallC 1 [] 0]) ((asg_v mk).trans rfl) ?_
  have hB0 : Bids [] 1 := ⟨by decide, by decide, by simp, by decide⟩
  have ent := m_enter (i := 1) (μ := [.lst zs, hallC 1 [] 0]) (k := 0) (b := [0, 4]) hB0 (by decide) (by decide +kernel) rfl
  refine seq_next (sd' := sdA none none) (μ' := μH) (drop_n (meth (fl := hallF 1 [] 0) (i := 1) (vr rfl) rfl rfl (aE (a := iT [0, 4]) (tE (aE rfl (aE rfl aN))) aN) ent)) ?_
  obtain ⟨sd', hf, x7, rfl⟩ := for_fold (μ := μH) (tgt := gN 7) (fb := sIf (dOr (dTest (dBin pyNe (dMeth F_Hall_bids "bids" (dVar 6) aNil) (dTup (aCons (dTup (aCons (dC (.int 0)) (aCons (dC (.int 4)) aNil))) aNil)))) (dOr (dTest (dBin pyNe (dMeth F_Hall_payments "payments" (dVar 6) aNil) (dShare (dLst (aCons (dC (.int 0)) aNil))))) (dOr (dTest (dBin pyNe (dLenI F_Hall___len__ (dVar 6)) (dC (.int 1)))) (dTest (dBin pyNe (dStrI F_Hall___str__ (dVar 6)) (dC (.str "04"))))))) (sRet (dC (.bool false))) sNext) nD (fun (_ : Unit) sd => ∃ x7, sd = sdA x7 none) (fun u _ => u) (xs := List.range 3) (fun x hx u sd ⟨x7, e⟩ => by
    subst e
    refine ⟨_, _, rfl, if_f (μ1 := μH) (or_f (ne_f (b := rT [[0, 4]]) (meth (fl := hallF 1 [[0, 4]] 0) (i := 1) (vr rfl) at1 rfl aN (m_bids_h at1)) (tE (aE (tE (aE rfl (aE rfl aN))) aN)) ((pn_rT _ _).trans (by rw [decide_eq_true rfl]; rfl))) (or_f (ne_f (b := iL [0]) (meth (fl := hallF 1 [[0, 4]] 0) (i := 1) (vr rfl) at1 rfl aN ((m_pay_h hB at1).trans (by rw [if_neg (by decide)]))) (lE (aE rfl aN)) ((pn_iL _ _).trans (by rw [pz, decide_eq_true rfl]; rfl))) (or_f (ne_f (lenI (i := 1) (fl := hallF 1 [[0, 4]] 0) (n := 1) (vr rfl) at1 rfl (m_len_h at1) (by decide)) rfl (p_ne.trans (by rw [decide_eq_true rfl]; rfl))) (ne_f (a := .str "04") (strI_of (i := 1) (fl := hallF 1 [[0, 4]] 0) (vr rfl) at1 ((m_str_h hB at1).trans (by rw [if_neg (by decide)]; rfl))) rfl ?_)))) (e_next (μ := μH)), _, rfl⟩
    exact pn_str (lay_S (a := [48, 52]) (by decide))) (b := ()) (sd := sdA none none) ⟨none, rfl⟩
  refine seq_next (for_s (ds := (List.range 3).map nD) (iR (n := 3) rfl (by decide)) hf) ?_
  have cells : (μH.all cellNL) = true := by
    show (noLA zs && (([("things", nD 1), ("room", rT [[0, 4]]), ("kept", nD 0)] : List (Str × D)).all (fun p => noL p.2) && true)) = true
    rw [hz, nol_zero]
    decide
  have told : dCall F__law_told (aCons (dVar 2) aNil) (smallS (sdA x7 none)) μH = .ok (.list (toldL r K)) μH := c1 (vr (by
    show some (keepNL (some (.v (rT r)))) = _
    rw [keep_nol (by simp [noL, nol_rows])])) (m_told h μH)
  have lens : ((toldL r K).all isLNL) = true := by
    have hl := h.len
    have l1 : (pays r K).length = r.length := by unfold pays; rw [List.length_map, List.length_range]
    have l2 : (keeps r K).length = r.length := by unfold keeps; rw [List.length_map, List.length_range]
    have e1 : isLNL (iL (pays r K)) = true := by simp [isLNL, nol_ints, l1]; omega
    have e2 : isLNL (iL (keeps r K)) = true := by simp [isLNL, nol_ints, l2]; omega
    have e3 : isLNL (rL (objL r K)) = true := by
      have := obj_len h
      simp [isLNL, nol_rows]
      omega
    have e4 : isLNL (.list [iT (win r K), .bool (partsB r K (win r K) (askP K))]) = true := by simp [isLNL, noLA, noL, nol_ints]
    show (isLNL (iL (pays r K)) && (isLNL (iL (keeps r K)) && (isLNL (rL (objL r K)) && (isLNL (.list [iT (win r K), .bool (partsB r K (win r K) (askP K))]) && true)))) = true
    rw [e1, e2, e3, e4]
    rfl
  refine seq_next (sd' := sdA x7 none) (μ' := μH) ?_ ?_
  · unfold sForApp
    rw [if_pos ⟨cells, show (8 : Nat) < 9 by decide⟩, told]
    show (if μH.all cellNL = true ∧ (toldL r K).all isLNL = true ∧ (toldL r K).length < 1000 then _ else _) = _
    rw [if_pos ⟨cells, lens, by show 4 < 1000; decide⟩]
    rfl
  exact ret_v (andV_r (bn (c1 (vr rfl) (m_told h μH)) (vr rfl) (pe_refl lay_told eqv_told)) (bn (c1 (vr rfl) (m_told h2 μH)) (vr rfl) (pe_refl lay_told eqv_told)))
end OL.K14

set_option maxHeartbeats 0
/-! HD_k14 (printed by gen.py head k14): the head, the facts, the end. -/
namespace OL.K14
open PySem PySem.Spec PySem.W PySem.Calls PyProof.Rows L2 DL OL
-- BAD _wall stmt pass
-- BAD Hall_undo bad def _wall
-- BAD Hall_duplicate bad def _wall
def d_is_integer : He.DefD := ⟨("is_integer", none), "is_integer", "is_integer", defArgs st_is_integer, defBody st_is_integer, defScope st_is_integer, [], []⟩
def d_things_in : He.DefD := ⟨("things_in", none), "things_in", "things_in", defArgs st_things_in, defBody st_things_in, defScope st_things_in, [], []⟩
def d_rises : He.DefD := ⟨("rises", none), "rises", "rises", defArgs st_rises, defBody st_rises, defScope st_rises, [], []⟩
def d_bids_for : He.DefD := ⟨("bids_for", none), "bids_for", "bids_for", defArgs st_bids_for, defBody st_bids_for, defScope st_bids_for, [], []⟩
def d_check_things : He.DefD := ⟨("check_things", none), "check_things", "check_things", defArgs st_check_things, defBody st_check_things, defScope st_check_things, [], []⟩
def d_is_room : He.DefD := ⟨("is_room", none), "is_room", "is_room", defArgs st_is_room, defBody st_is_room, defScope st_is_room, [], []⟩
def d_check_room : He.DefD := ⟨("check_room", none), "check_room", "check_room", defArgs st_check_room, defBody st_check_room, defScope st_check_room, [], []⟩
def d_allotments : He.DefD := ⟨("allotments", none), "allotments", "allotments", defArgs st_allotments, defBody st_allotments, defScope st_allotments, [], []⟩
def d_total_of : He.DefD := ⟨("total_of", none), "total_of", "total_of", defArgs st_total_of, defBody st_total_of, defScope st_total_of, [], []⟩
def d_best_for : He.DefD := ⟨("best_for", none), "best_for", "best_for", defArgs st_best_for, defBody st_best_for, defScope st_best_for, [], []⟩
def d_everyone : He.DefD := ⟨("everyone", none), "everyone", "everyone", defArgs st_everyone, defBody st_everyone, defScope st_everyone, [], []⟩
def d_best_allotment : He.DefD := ⟨("best_allotment", none), "best_allotment", "best_allotment", defArgs st_best_allotment, defBody st_best_allotment, defScope st_best_allotment, [], []⟩
def d_outcome : He.DefD := ⟨("outcome", none), "outcome", "outcome", defArgs st_outcome, defBody st_outcome, defScope st_outcome, [], []⟩
def d_payments : He.DefD := ⟨("payments", none), "payments", "payments", defArgs st_payments, defBody st_payments, defScope st_payments, [], []⟩
def d_kept_list : He.DefD := ⟨("kept_list", none), "kept_list", "kept_list", defArgs st_kept_list, defBody st_kept_list, defScope st_kept_list, [], []⟩
def d_kept : He.DefD := ⟨("kept", none), "kept", "kept", defArgs st_kept, defBody st_kept, defScope st_kept, [], []⟩
def d_gains : He.DefD := ⟨("gains", none), "gains", "gains", defArgs st_gains, defBody st_gains, defScope st_gains, [], []⟩
def d_group_list : He.DefD := ⟨("group_list", none), "group_list", "group_list", defArgs st_group_list, defBody st_group_list, defScope st_group_list, [], []⟩
def d_objecting : He.DefD := ⟨("objecting", none), "objecting", "objecting", defArgs st_objecting, defBody st_objecting, defScope st_objecting, [], []⟩
def d_text_of : He.DefD := ⟨("text_of", none), "text_of", "text_of", defArgs st_text_of, defBody st_text_of, defScope st_text_of, [], []⟩
def d_Hall___init__ : He.DefD := ⟨("Hall", some "__init__"), "__init__", "Hall.__init__", defArgs st_Hall___init__, defBody st_Hall___init__, defScope st_Hall___init__, [], []⟩
def d_Hall_best : He.DefD := ⟨("Hall", some "best"), "best", "Hall.best", defArgs st_Hall_best, defBody st_Hall_best, defScope st_Hall_best, [], []⟩
def d_Hall_enter : He.DefD := ⟨("Hall", some "enter"), "enter", "Hall.enter", defArgs st_Hall_enter, defBody st_Hall_enter, defScope st_Hall_enter, [], []⟩
def d_Hall_bids : He.DefD := ⟨("Hall", some "bids"), "bids", "Hall.bids", defArgs st_Hall_bids, defBody st_Hall_bids, defScope st_Hall_bids, [], []⟩
def d_Hall_payments : He.DefD := ⟨("Hall", some "payments"), "payments", "Hall.payments", defArgs st_Hall_payments, defBody st_Hall_payments, defScope st_Hall_payments, [], []⟩
def d_Hall___eq__ : He.DefD := ⟨("Hall", some "__eq__"), "__eq__", "Hall.__eq__", defArgs st_Hall___eq__, defBody st_Hall___eq__, defScope st_Hall___eq__, [], []⟩
def d_Hall___len__ : He.DefD := ⟨("Hall", some "__len__"), "__len__", "Hall.__len__", defArgs st_Hall___len__, defBody st_Hall___len__, defScope st_Hall___len__, [], []⟩
def d_Hall___str__ : He.DefD := ⟨("Hall", some "__str__"), "__str__", "Hall.__str__", defArgs st_Hall___str__, defBody st_Hall___str__, defScope st_Hall___str__, [], []⟩
def d_count_things : He.DefD := ⟨("count_things", none), "count_things", "count_things", defArgs st_count_things, defBody st_count_things, defScope st_count_things, [], []⟩
def d_price_of : He.DefD := ⟨("price_of", none), "price_of", "price_of", defArgs st_price_of, defBody st_price_of, defScope st_price_of, [], []⟩
def d_parts : He.DefD := ⟨("parts", none), "parts", "parts", defArgs st_parts, defBody st_parts, defScope st_parts, [], []⟩
def d_do_part : He.DefD := ⟨("do_part", none), "do_part", "do_part", defArgs st_do_part, defBody st_do_part, defScope st_do_part, [], []⟩
def d__law_cell_at : He.DefD := ⟨("_law_cell_at", none), "_law_cell_at", "_law_cell_at", defArgs st__law_cell_at, defBody st__law_cell_at, defScope st__law_cell_at, [], []⟩
def d__law_mixed : He.DefD := ⟨("_law_mixed", none), "_law_mixed", "_law_mixed", defArgs st__law_mixed, defBody st__law_mixed, defScope st__law_mixed, [], []⟩
def d__law_draw : He.DefD := ⟨("_law_draw", none), "_law_draw", "_law_draw", defArgs st__law_draw, defBody st__law_draw, defScope st__law_draw, [], []⟩
def d__law_inside : He.DefD := ⟨("_law_inside", none), "_law_inside", "_law_inside", defArgs st__law_inside, defBody st__law_inside, defScope st__law_inside, [], []⟩
def d__law_some_bid : He.DefD := ⟨("_law_some_bid", none), "_law_some_bid", "_law_some_bid", defArgs st__law_some_bid, defBody st__law_some_bid, defScope st__law_some_bid, [], []⟩
def d__law_some_room : He.DefD := ⟨("_law_some_room", none), "_law_some_room", "_law_some_room", defArgs st__law_some_room, defBody st__law_some_room, defScope st__law_some_room, [], []⟩
def d__law_told : He.DefD := ⟨("_law_told", none), "_law_told", "_law_told", defArgs st__law_told, defBody st__law_told, defScope st__law_told, [], []⟩
def d_law : He.DefD := ⟨("law", none), "law", "law", defArgs st_law, defBody st_law, defScope st_law, [], []⟩
def fnL : List He.DefD := ([d_is_integer, d_things_in, d_rises, d_bids_for, d_check_things, d_is_room, d_check_room, d_allotments, d_total_of, d_best_for, d_everyone, d_best_allotment, d_outcome, d_payments, d_kept_list, d_kept, d_gains, d_group_list, d_objecting, d_text_of] : List He.DefD) ++ ([d_Hall___init__, d_Hall_best, d_Hall_enter, d_Hall_bids, d_Hall_payments, d_Hall___eq__, d_Hall___len__, d_Hall___str__, d_count_things, d_price_of, d_parts, d_do_part, d__law_cell_at, d__law_mixed, d__law_draw, d__law_inside, d__law_some_bid, d__law_some_room, d__law_told, d_law] : List He.DefD)
def faL : List He.Fa := ([.glo "is_integer", .glo "things_in", .glo "rises", .glo "bids_for", .glo "check_things", .glo "is_room", .glo "check_room", .glo "allotments", .glo "total_of", .glo "best_for", .glo "everyone", .glo "best_allotment", .glo "outcome", .glo "payments", .glo "kept_list", .glo "kept", .glo "gains", .glo "group_list", .glo "objecting", .glo "text_of"] : List He.Fa) ++ ([.glo "count_things", .glo "price_of", .glo "parts", .glo "do_part", .glo "_law_cell_at", .glo "_law_mixed", .glo "_law_draw", .glo "_law_inside", .glo "_law_some_bid", .glo "_law_some_room", .glo "_law_told", .glo "law", .free "len", .free "sum", .free "max", .free "min", .free "all", .free "tuple", .free "sorted", .free "isinstance"] : List He.Fa) ++ ([.free "int", .free "bool", .free "list", .free "range", .free "enumerate", .free "zip", .free "str", .free "set", .int "MOST" 4, .glo "SIZES", .glo "InvalidNumber", .glo "InvalidRoom", .glo "InvalidBid", .glo "TooMany", .glo "InvalidPrices", .exc "InvalidNumber", .exc "InvalidRoom", .exc "InvalidBid", .exc "TooMany", .exc "InvalidPrices"] : List He.Fa) ++ ([.glo "Hall", .cls "Hall", .mkr "Hall", .noat "Hall" "things", .noat "Hall" "room", .noat "Hall" "kept", .meth "Hall" "best", .meth "Hall" "enter", .meth "Hall" "bids", .meth "Hall" "payments", .meth "Hall" "__eq__", .meth "Hall" "__len__", .meth "Hall" "__str__"] : List He.Fa)
def exL (K : DL.Frag) : Bool := (He.tupB K "SIZES" (([2, 4, 8] : List Int).map He.Dv.int)) && (isCB K (He.ga K "Hall"))
def looseL : List Str := (["_wall", "BidError", "InvalidBid", "InvalidRoom", "InvalidNumber", "InvalidPrices", "TooMany", "MOST", "SIZES", "is_integer", "things_in", "rises", "bids_for", "check_things", "is_room", "check_room", "allotments", "total_of", "best_for", "everyone"] : List Str) ++ (["best_allotment", "outcome", "payments", "kept_list", "kept", "gains", "group_list", "objecting", "text_of", "Hall", "count_things", "price_of", "parts", "do_part", "_law_cell_at", "_law_mixed", "_law_draw", "_law_inside", "_law_some_bid", "_law_some_room"] : List Str) ++ (["_law_told"] : List Str)
abbrev R : PySem.W.OpenRow := PySem.W.OpenLaw.row PySem.Challenge.rw_othersloss_k14_whole_repeated_calls
abbrev hk : PySem.W.Hook := He.hookX 5 faL fnL [] [] exL
def ob (s : PySem.W.SharedT) : He.AlX := He.obsX 5 faL fnL [] [] exL (HandSHeadRun.getT s)
theorem ob_eq (s : PySem.W.SharedT) : ob s = hk.obs s.abs := He.obsX_eq (HandSHeadRun.getT_eq s)
theorem run (w : World) : HandSHeadRun.RunEq R (PySem.W.view R.prog [50]) hk ob 20000 looseL w := by
  intro os
  kernel_rfl
def gK (K : DL.Frag) : G := ⟨He.ga K "Hall", fun n => .ref (He.ga K (if n = e_InvalidNumber then "InvalidNumber" else if n = e_InvalidRoom then "InvalidRoom" else if n = e_InvalidBid then "InvalidBid" else if n = e_TooMany then "TooMany" else if n = e_InvalidPrices then "InvalidPrices" else "law"))⟩
theorem facts {P : Program} {w : World} {K : DL.Frag} {h : Heap} {mg : Str → Option Value} {f : Addr} (X : K.In h) (G1 : h.Ns mainGlobals mg) (hfa : mg ("law" : Str) = some (.ref f)) (c : He.SaysX faL fnL [] [] exL w h K) :
    ∃ fd : FuncData, (∀ (s : Shared) (v : Value), BindsTo s fd ⟨[v], []⟩ [("_law_script", v)]) ∧ ∀ base : Heap, K.In base → base.Ns mainGlobals mg → FnOk P w K mg base CX0 9 f fd ["_law_script"] (spL K (gK K) F_law) := by
  have cd := c.t.d
  have fc : ∀ {x : He.Fa} (i : Nat), faL[i]? = some x → x.ok K = true := fun {x} i hi => cd.fact i (f := x) hi
  have B : Blt mg := ⟨He.free_ok X G1 (fc 32 rfl), He.free_ok X G1 (fc 33 rfl), He.free_ok X G1 (fc 34 rfl), He.free_ok X G1 (fc 35 rfl), He.free_ok X G1 (fc 36 rfl), He.free_ok X G1 (fc 37 rfl), He.free_ok X G1 (fc 38 rfl), He.free_ok X G1 (fc 39 rfl), He.free_ok X G1 (fc 40 rfl), He.free_ok X G1 (fc 41 rfl), He.free_ok X G1 (fc 42 rfl), He.free_ok X G1 (fc 43 rfl), He.free_ok X G1 (fc 44 rfl), He.free_ok X G1 (fc 45 rfl), He.free_ok X G1 (fc 46 rfl), He.free_ok X G1 (fc 47 rfl)⟩
  have c_MOST := gc_int X G1 (fc 48 (x := .int "MOST" 4) rfl)
  have t_SIZES : He.tupB K "SIZES" (([2, 4, 8] : List Int).map He.Dv.int) = true := (He.ba c.more).1
  have c_SIZES := gc_tup X G1 (fc 49 (x := .glo "SIZES") rfl) t_SIZES
  have x_InvalidNumber : ExD K mg (gK K) "InvalidNumber" e_InvalidNumber := exd_of X G1 (by rfl) (fc 50 rfl) (fc 55 rfl)
  have x_InvalidRoom : ExD K mg (gK K) "InvalidRoom" e_InvalidRoom := exd_of X G1 (by rfl) (fc 51 rfl) (fc 56 rfl)
  have x_InvalidBid : ExD K mg (gK K) "InvalidBid" e_InvalidBid := exd_of X G1 (by rfl) (fc 52 rfl) (fc 57 rfl)
  have x_TooMany : ExD K mg (gK K) "TooMany" e_TooMany := exd_of X G1 (by rfl) (fc 53 rfl) (fc 58 rfl)
  have x_InvalidPrices : ExD K mg (gK K) "InvalidPrices" e_InvalidPrices := exd_of X G1 (by rfl) (fc 54 rfl) (fc 59 rfl)
  obtain ⟨fd_is_integer, F_is_integer⟩ := cd.def_ 0 (d := d_is_integer) rfl
  obtain ⟨fd_things_in, F_things_in⟩ := cd.def_ 1 (d := d_things_in) rfl
  obtain ⟨fd_rises, F_rises⟩ := cd.def_ 2 (d := d_rises) rfl
  obtain ⟨fd_bids_for, F_bids_for⟩ := cd.def_ 3 (d := d_bids_for) rfl
  obtain ⟨fd_check_things, F_check_things⟩ := cd.def_ 4 (d := d_check_things) rfl
  obtain ⟨fd_is_room, F_is_room⟩ := cd.def_ 5 (d := d_is_room) rfl
  obtain ⟨fd_check_room, F_check_room⟩ := cd.def_ 6 (d := d_check_room) rfl
  obtain ⟨fd_allotments, F_allotments⟩ := cd.def_ 7 (d := d_allotments) rfl
  obtain ⟨fd_total_of, F_total_of⟩ := cd.def_ 8 (d := d_total_of) rfl
  obtain ⟨fd_best_for, F_best_for⟩ := cd.def_ 9 (d := d_best_for) rfl
  obtain ⟨fd_everyone, F_everyone⟩ := cd.def_ 10 (d := d_everyone) rfl
  obtain ⟨fd_best_allotment, F_best_allotment⟩ := cd.def_ 11 (d := d_best_allotment) rfl
  obtain ⟨fd_outcome, F_outcome⟩ := cd.def_ 12 (d := d_outcome) rfl
  obtain ⟨fd_payments, F_payments⟩ := cd.def_ 13 (d := d_payments) rfl
  obtain ⟨fd_kept_list, F_kept_list⟩ := cd.def_ 14 (d := d_kept_list) rfl
  obtain ⟨fd_kept, F_kept⟩ := cd.def_ 15 (d := d_kept) rfl
  obtain ⟨fd_gains, F_gains⟩ := cd.def_ 16 (d := d_gains) rfl
  obtain ⟨fd_group_list, F_group_list⟩ := cd.def_ 17 (d := d_group_list) rfl
  obtain ⟨fd_objecting, F_objecting⟩ := cd.def_ 18 (d := d_objecting) rfl
  obtain ⟨fd_text_of, F_text_of⟩ := cd.def_ 19 (d := d_text_of) rfl
  obtain ⟨fd_Hall___init__, F_Hall___init__⟩ := cd.def_ 20 (d := d_Hall___init__) rfl
  obtain ⟨fd_Hall_best, F_Hall_best⟩ := cd.def_ 21 (d := d_Hall_best) rfl
  obtain ⟨fd_Hall_enter, F_Hall_enter⟩ := cd.def_ 22 (d := d_Hall_enter) rfl
  obtain ⟨fd_Hall_bids, F_Hall_bids⟩ := cd.def_ 23 (d := d_Hall_bids) rfl
  obtain ⟨fd_Hall_payments, F_Hall_payments⟩ := cd.def_ 24 (d := d_Hall_payments) rfl
  obtain ⟨fd_Hall___eq__, F_Hall___eq__⟩ := cd.def_ 25 (d := d_Hall___eq__) rfl
  obtain ⟨fd_Hall___len__, F_Hall___len__⟩ := cd.def_ 26 (d := d_Hall___len__) rfl
  obtain ⟨fd_Hall___str__, F_Hall___str__⟩ := cd.def_ 27 (d := d_Hall___str__) rfl
  obtain ⟨fd_count_things, F_count_things⟩ := cd.def_ 28 (d := d_count_things) rfl
  obtain ⟨fd_price_of, F_price_of⟩ := cd.def_ 29 (d := d_price_of) rfl
  obtain ⟨fd_parts, F_parts⟩ := cd.def_ 30 (d := d_parts) rfl
  obtain ⟨fd_do_part, F_do_part⟩ := cd.def_ 31 (d := d_do_part) rfl
  obtain ⟨fd__law_cell_at, F__law_cell_at⟩ := cd.def_ 32 (d := d__law_cell_at) rfl
  obtain ⟨fd__law_mixed, F__law_mixed⟩ := cd.def_ 33 (d := d__law_mixed) rfl
  obtain ⟨fd__law_draw, F__law_draw⟩ := cd.def_ 34 (d := d__law_draw) rfl
  obtain ⟨fd__law_inside, F__law_inside⟩ := cd.def_ 35 (d := d__law_inside) rfl
  obtain ⟨fd__law_some_bid, F__law_some_bid⟩ := cd.def_ 36 (d := d__law_some_bid) rfl
  obtain ⟨fd__law_some_room, F__law_some_room⟩ := cd.def_ 37 (d := d__law_some_room) rfl
  obtain ⟨fd__law_told, F__law_told⟩ := cd.def_ 38 (d := d__law_told) rfl
  obtain ⟨fd_law, F_law⟩ := cd.def_ 39 (d := d_law) rfl
  have k_Hall : HallD K mg (gK K) "Hall" ["things", "room", "kept"] := ⟨He.glo_ok X G1 (fc 60 (x := .glo "Hall") rfl), He.cls_ok (fc 61 (x := .cls "Hall") rfl), fun f hf => by
    simp only [List.mem_cons, List.not_mem_nil, or_false] at hf
    rcases hf with rfl | rfl | rfl
    · exact He.noat_ok (fc 63 (x := .noat "Hall" "things") rfl)
    · exact He.noat_ok (fc 64 (x := .noat "Hall" "room") rfl)
    · exact He.noat_ok (fc 65 (x := .noat "Hall" "kept") rfl)⟩
  have kc_Hall : IsC K (gK K).C := isC_of k_Hall.cls ((He.ba c.more).2)
  have e := hfa.symm.trans (He.glo_ok X G1 (fc 31 (x := .glo "law") rfl))
  cases e
  have bb := FunD.bindsA (ps := ["_law_script"]) F_law fun _ _ _ _ _ _ us hl => match us, hl with | [_], _ => rfl
  refine ⟨fd_law, fun s v => bb s [v] rfl, fun base _ _ => ?_⟩
  have h_is_integer : FnD P w K mg base (gK K) "is_integer" 1 3 OL.F_is_integer := ok_is_integer F_is_integer B (He.glo_ok X G1 (fc 0 (x := .glo "is_integer") rfl)) 
  have h_things_in : FnD P w K mg base (gK K) "things_in" 1 1 OL.F_things_in := ok_things_in F_things_in B (He.glo_ok X G1 (fc 1 (x := .glo "things_in") rfl)) c_SIZES
  have h_rises : FnD P w K mg base (gK K) "rises" 2 1 OL.F_rises := ok_rises F_rises B (He.glo_ok X G1 (fc 2 (x := .glo "rises") rfl)) h_things_in c_SIZES
  have h_bids_for : FnD P w K mg base (gK K) "bids_for" 3 2 OL.F_bids_for := ok_bids_for F_bids_for B (He.glo_ok X G1 (fc 3 (x := .glo "bids_for") rfl)) h_is_integer h_rises
  have h_check_things : FnD P w K mg base (gK K) "check_things" 2 1 OL.F_check_things := ok_check_things F_check_things B (He.glo_ok X G1 (fc 4 (x := .glo "check_things") rfl)) h_is_integer x_InvalidNumber
  have h_is_room : FnD P w K mg base (gK K) "is_room" 4 1 OL.F_is_room := ok_is_room F_is_room B (He.glo_ok X G1 (fc 5 (x := .glo "is_room") rfl)) h_bids_for c_MOST c_SIZES
  have h_check_room : FnD P w K mg base (gK K) "check_room" 5 1 OL.F_check_room := ok_check_room F_check_room B (He.glo_ok X G1 (fc 6 (x := .glo "check_room") rfl)) h_is_room x_InvalidRoom
  have h_allotments : FnD P w K mg base (gK K) "allotments" 1 2 OL.F_allotments := ok_allotments F_allotments B (He.glo_ok X G1 (fc 7 (x := .glo "allotments") rfl)) 
  have h_total_of : FnD P w K mg base (gK K) "total_of" 1 2 OL.F_total_of := ok_total_of F_total_of B (He.glo_ok X G1 (fc 8 (x := .glo "total_of") rfl)) 
  have h_best_for : FnD P w K mg base (gK K) "best_for" 2 2 OL.F_best_for := ok_best_for F_best_for B (He.glo_ok X G1 (fc 9 (x := .glo "best_for") rfl)) h_allotments h_total_of
  have h_everyone : FnD P w K mg base (gK K) "everyone" 1 1 OL.F_everyone := ok_everyone F_everyone B (He.glo_ok X G1 (fc 10 (x := .glo "everyone") rfl)) 
  have h_best_allotment : FnD P w K mg base (gK K) "best_allotment" 6 1 OL.F_best_allotment := ok_best_allotment F_best_allotment B (He.glo_ok X G1 (fc 11 (x := .glo "best_allotment") rfl)) h_check_room h_best_for h_everyone
  have h_outcome : FnD P w K mg base (gK K) "outcome" 3 1 OL.F_outcome := ok_outcome F_outcome B (He.glo_ok X G1 (fc 12 (x := .glo "outcome") rfl)) h_best_for h_everyone
  have h_payments : FnD P w K mg base (gK K) "payments" 6 1 OL.F_payments := ok_payments F_payments B (He.glo_ok X G1 (fc 13 (x := .glo "payments") rfl)) h_check_room h_outcome
  have h_kept_list : FnD P w K mg base (gK K) "kept_list" 4 1 OL.F_kept_list := ok_kept_list F_kept_list B (He.glo_ok X G1 (fc 14 (x := .glo "kept_list") rfl)) h_outcome
  have h_kept : FnD P w K mg base (gK K) "kept" 6 1 OL.F_kept := ok_kept F_kept B (He.glo_ok X G1 (fc 15 (x := .glo "kept") rfl)) h_check_room h_kept_list
  have h_gains : FnD P w K mg base (gK K) "gains" 5 2 OL.F_gains := ok_gains F_gains B (He.glo_ok X G1 (fc 16 (x := .glo "gains") rfl)) h_kept_list h_best_for h_outcome
  have h_group_list : FnD P w K mg base (gK K) "group_list" 6 1 OL.F_group_list := ok_group_list F_group_list B (He.glo_ok X G1 (fc 17 (x := .glo "group_list") rfl)) h_everyone h_gains
  have h_objecting : FnD P w K mg base (gK K) "objecting" 7 1 OL.F_objecting := ok_objecting F_objecting B (He.glo_ok X G1 (fc 18 (x := .glo "objecting") rfl)) h_check_room h_group_list
  have h_text_of : FnD P w K mg base (gK K) "text_of" 1 1 OL.F_text_of := ok_text_of F_text_of B (He.glo_ok X G1 (fc 19 (x := .glo "text_of") rfl)) 
  have i_Hall : FnI P w K mg base (gK K) "Hall" 3 2 OL.F_Hall___init__ := ok_Hall___init__ F_Hall___init__ B k_Hall.mg_ (He.mkr_ok (fc 62 (x := .mkr "Hall") rfl)) h_check_things k_Hall
  have m_Hall_best : FnM P w K mg base (gK K) "best" 3 1 OL.F_Hall_best := ok_Hall_best F_Hall_best B (He.meth_ok (fc 66 (x := .meth "Hall" "best") rfl)) h_best_for h_everyone k_Hall
  have m_Hall_enter : FnM P w K mg base (gK K) "enter" 4 2 OL.F_Hall_enter := ok_Hall_enter F_Hall_enter B (He.meth_ok (fc 67 (x := .meth "Hall" "enter") rfl)) h_bids_for c_SIZES c_MOST k_Hall m_Hall_best x_InvalidBid x_TooMany
  have m_Hall_bids : FnM P w K mg base (gK K) "bids" 1 1 OL.F_Hall_bids := ok_Hall_bids F_Hall_bids B (He.meth_ok (fc 68 (x := .meth "Hall" "bids") rfl)) k_Hall
  have m_Hall_payments : FnM P w K mg base (gK K) "payments" 4 1 OL.F_Hall_payments := ok_Hall_payments F_Hall_payments B (He.meth_ok (fc 69 (x := .meth "Hall" "payments") rfl)) h_outcome k_Hall
  have m_Hall___eq__ : FnM P w K mg base (gK K) "__eq__" 1 2 OL.F_Hall___eq__ := ok_Hall___eq__ F_Hall___eq__ B (He.meth_ok (fc 70 (x := .meth "Hall" "__eq__") rfl)) k_Hall kc_Hall
  have m_Hall___len__ : FnM P w K mg base (gK K) "__len__" 1 1 OL.F_Hall___len__ := ok_Hall___len__ F_Hall___len__ B (He.meth_ok (fc 71 (x := .meth "Hall" "__len__") rfl)) k_Hall
  have m_Hall___str__ : FnM P w K mg base (gK K) "__str__" 2 1 OL.F_Hall___str__ := ok_Hall___str__ F_Hall___str__ B (He.meth_ok (fc 72 (x := .meth "Hall" "__str__") rfl)) h_text_of k_Hall
  have h_count_things : FnD P w K mg base (gK K) "count_things" 2 1 OL.F_count_things := ok_count_things F_count_things B (He.glo_ok X G1 (fc 20 (x := .glo "count_things") rfl)) h_things_in
  have h_price_of : FnD P w K mg base (gK K) "price_of" 2 2 OL.F_price_of := ok_price_of F_price_of B (He.glo_ok X G1 (fc 21 (x := .glo "price_of") rfl)) h_things_in
  have h_parts : FnD P w K mg base (gK K) "parts" 3 3 OL.F_parts := ok_parts F_parts B (He.glo_ok X G1 (fc 22 (x := .glo "parts") rfl)) h_price_of
  have h_do_part : FnD P w K mg base (gK K) "do_part" 6 2 OL.F_do_part := ok_do_part F_do_part B (He.glo_ok X G1 (fc 23 (x := .glo "do_part") rfl)) h_check_room h_count_things h_is_integer h_parts h_best_for h_everyone x_InvalidPrices
  have h__law_cell_at : FnD P w K mg base (gK K) "_law_cell_at" 1 2 OL.F__law_cell_at := ok__law_cell_at F__law_cell_at B (He.glo_ok X G1 (fc 24 (x := .glo "_law_cell_at") rfl)) 
  have h__law_mixed : FnD P w K mg base (gK K) "_law_mixed" 2 3 OL.F__law_mixed := ok__law_mixed F__law_mixed B (He.glo_ok X G1 (fc 25 (x := .glo "_law_mixed") rfl)) h__law_cell_at
  have h__law_draw : FnD P w K mg base (gK K) "_law_draw" 3 3 OL.F__law_draw := ok__law_draw F__law_draw B (He.glo_ok X G1 (fc 26 (x := .glo "_law_draw") rfl)) h__law_mixed
  have h__law_inside : FnD P w K mg base (gK K) "_law_inside" 1 1 OL.F__law_inside := ok__law_inside F__law_inside B (He.glo_ok X G1 (fc 27 (x := .glo "_law_inside") rfl)) 
  have h__law_some_bid : FnD P w K mg base (gK K) "_law_some_bid" 4 4 OL.F__law_some_bid := ok__law_some_bid F__law_some_bid B (He.glo_ok X G1 (fc 28 (x := .glo "_law_some_bid") rfl)) h__law_draw h__law_inside
  have h__law_some_room : FnD P w K mg base (gK K) "_law_some_room" 5 3 OL.F__law_some_room := ok__law_some_room F__law_some_room B (He.glo_ok X G1 (fc 29 (x := .glo "_law_some_room") rfl)) h__law_draw h__law_some_bid
  have h__law_told : FnD P w K mg base (gK K) "_law_told" 8 1 OL.F__law_told := ok__law_told F__law_told B (He.glo_ok X G1 (fc 30 (x := .glo "_law_told") rfl)) h_do_part h_best_allotment h_objecting h_kept h_payments
  exact ok_law F_law B h__law_some_room h__law_told k_Hall i_Hall m_Hall_enter m_Hall___str__ m_Hall___len__ m_Hall_payments m_Hall_bids
/-- the row holds, if the law's denotation is true at every script -/
theorem holds_of (ht : ∀ ns : List Int, ns.length ≤ 63 → ∃ μ', F_law [scr (ns.map .int)] [] = .ok (.bool true) μ') : PySem.Challenge.rw_othersloss_k14_whole_repeated_calls.Holds := by
  w_on; o_law
  refine HandSHeadRun.head_any (r := R) (q := PySem.W.view R.prog [50]) (H := hk) (ob := ob) (M := 20000) (loose := looseL) (d := HandSHeadRun.topDef R.prog 50) (kwd := []) ob_eq
    (by kernel_rfl) (fun s => by kernel_rfl) run (by kernel_rfl) (by kernel_rfl) (by kernel_rfl) (by rfl) (by first | assumption | decide +kernel) (by decide +kernel) ⟨rfl, rfl, rfl, rfl, rfl, by decide +kernel⟩ ?hw ?hc
  case hw => w_witness2
  case hc =>
    refine L2.walk_ofE (l := PySem.Challenge.rw_othersloss_k14_whole_repeated_calls) (n := 63) (k := 9) (x := "_law_script") (CX := L2.CX0) rfl (by decide) (by kernel_rfl) ⟨rfl, by decide, by decide⟩ ?F (fun _ _ _ _ z => z)
    intro w mg fa h Y G1 hmg0
    obtain ⟨K, KX, c⟩ := Y
    have hmg : mg ("law" : PySem.Str) = some (.ref fa) := by
      have e : (HandSHeadRun.topDef R.prog 50).name = ("law" : PySem.Str) := by kernel_rfl
      rw [← e]
      exact hmg0
    obtain ⟨fd, hb, hF⟩ := facts (P := (PySem.Challenge.rw_othersloss_k14_whole_repeated_calls).prog) (w := w) KX G1 hmg c
    exact ⟨K, fd, spL K (gK K) F_law, KX, hb, fun H a ns hl _ hS => law_starts hS (ht ns hl), hF⟩

end OL.K14

theorem PySem.Challenge.cw_othersloss_k14_whole_repeated_calls_holds : PySem.Challenge.rw_othersloss_k14_whole_repeated_calls.Holds := by
  exact OL.K14.holds_of OL.K14.law_true
