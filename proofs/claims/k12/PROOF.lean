import PyProof.Rows.All
import Wide.All
import OpenK.AllK
import Wide.FinOn
import HandS.ForMost
import HandS.ForExc
import HandS.Wide
import HandS.Evl
import HandS.IsInst
import HandS.TupAny
import KE.KDictKeyed
import HandS.SetKeys
import HandS.TupLen
import HandS.Conv
import KE.GoesMore
import HandS.Defaults
import HandS.HeadEnd
import HandS.WordsExc
import HandS.ExcOwn
import HandS.StrMore
import HandS.Zip
import HandS.RevRange
import HandS.HeadHook2
import HandS.ExcIs
import HandS.New0
import HandS.More
import KE.KStateDown
import Lean
import HandS.Words
import HandS.Head0
import HandS.Head1
import HandS.Head2
import HandS.HeadHook1
import HandS.Deep
import HandS.TryMany
import PyProof.StrOps2
import HandS.Rev
import HandS.RevTup
import HandS.Flow
import HandS.HotCalls
import KE.LtSeq
import PySem.Challenge.RW_kbestwood_k12_grammars_written
set_option Elab.async false
set_option linter.all false
set_option maxRecDepth 100000
set_option maxHeartbeats 4000000
/-! A layer of data over the hand layer: what a value stands for (D), worlds (what is frozen, what stands), a store of mutable objects, slots by data. -/
namespace Z
open PySem L2
open Evl (Ex)

inductive D where
  | non | bl (b : Bool) | int (i : Int) | str (x : Str)
  | lst (xs : List D) | tup (xs : List D)
  | obj (n : Str) (fs : List (Str × D))
  | ref (a : Addr) | ty (n : String) | cls (n : Str) | exc (n : Str)
  | dic (t : Bool) (kvs : List (D × D))
deriving Inhabited

structure Bx where
  P : Program
  w : World
  K : PySem.W.Frag
  mg : Str → Option Value
/-- where a class stands, by its name -/
def Bx.cl (B : Bx) (n : Str) : Addr := match B.mg n with | some (.ref C) => C | _ => 0

/-- an exception of the class at C stands at a -/
def ExcAt (a C : Addr) : Heap → Prop := fun h => ∃ oe vs, h.get? a = some oe ∧ oe.cls = .ref C ∧ oe.dict = none ∧ oe.data = .fields vs
/-- a dict whose keys are ints and texts stands at a -/
def DkAt (B : Bx) (a : Addr) (o : Obj) (kv : List (Key × V)) : Heap → Prop := fun h => h.get? a = some o ∧ kv.length ≤ sizeLine ∧ (a == sysModules) = false ∧ ∃ vs, KV kv vs ∧ h.DictOf (mixKind B.P B.w) a vs
/-- a dict whose keys are tuples stands at a -/
def RawD (B : Bx) (a : Addr) (o : Obj) (xs : List (NestedKey × Addr × Value)) : Heap → Prop := fun h => h.get? a = some o ∧ xs.length ≤ sizeLine ∧ (a == sysModules) = false ∧ o.ExactDict ∧ (xs.map (·.1)).Nodup ∧ ∃ es ep, o.data = .dict es ep ∧ es.toList = xs.map (entryOfKey (nestedKind B.P B.w))
mutual
/-- data as a key -/
def nk : D → Option NestedKey
  | .non => some .none
  | .bl b => some (.num (if b then 1 else 0))
  | .int i => some (.num i)
  | .str x => some (.text x)
  | .tup xs => (nks xs).map .tup
  | _ => none
def nks : List D → Option (List NestedKey)
  | [] => some []
  | d :: ds => match nk d, nks ds with | some k, some ks => some (k :: ks) | _, _ => none
end
def keyD : Key → D
  | .inl i => .int i
  | .inr x => .str x

mutual
inductive Rp (B : Bx) (F : Hp) : V → D → Prop
  | non : Rp B F .non .non
  | bl (b : Bool) : Rp B F (.bl b) (.bl b)
  | int (i : Int) : Rp B F (.int i) (.int i)
  | str (x : Str) : Rp B F (.str x) (.str x)
  | ty (n : String) : Rp B F (.ty n) (.ty n)
  | cls (n : Str) : Rp B F (.ref (B.cl n)) (.cls n)
  | ref (a : Addr) : Rp B F (.ref a) (.ref a)
  | lst {a : Addr} {xs : List V} {ds : List D} : SqL B.K F a xs → RpAll B F xs ds → Rp B F (.ref a) (.lst ds)
  | tup {a : Addr} {xs : List V} {ds : List D} : SqT B.K F a xs → RpAll B F xs ds → Rp B F (.ref a) (.tup ds)
  | obj {a dx : Addr} {n : Str} {fv : List (Str × V)} {fs : List (Str × D)} : F a = some (.ins (B.cl n) dx fv) → RpF B F fv fs → Rp B F (.ref a) (.obj n fs)
  | exc {a : Addr} {n : Str} : F a = some (.ext (ExcAt a (B.cl n))) → Rp B F (.ref a) (.exc n)
  | dic {a : Addr} {o : Obj} {kv : List (Key × V)} {ks : List (D × D)} : F a = some (.ext (DkAt B a o kv)) → RpK B F kv ks → Rp B F (.ref a) (.dic false ks)
  | dit {a : Addr} {o : Obj} {xs : List (NestedKey × Addr × Value)} {ks : List (D × D)} : F a = some (.ext (RawD B a o xs)) → RpX B F xs ks → Rp B F (.ref a) (.dic true ks)
inductive RpAll (B : Bx) (F : Hp) : List V → List D → Prop
  | nil : RpAll B F [] []
  | cons {v : V} {vs : List V} {d : D} {ds : List D} : Rp B F v d → RpAll B F vs ds → RpAll B F (v :: vs) (d :: ds)
inductive RpF (B : Bx) (F : Hp) : List (Str × V) → List (Str × D) → Prop
  | nil : RpF B F [] []
  | cons {f : Str} {v : V} {vs : List (Str × V)} {d : D} {ds : List (Str × D)} : Rp B F v d → RpF B F vs ds → RpF B F ((f, v) :: vs) ((f, d) :: ds)
inductive RpK (B : Bx) (F : Hp) : List (Key × V) → List (D × D) → Prop
  | nil : RpK B F [] []
  | cons {k : Key} {v : V} {vs : List (Key × V)} {d : D} {ds : List (D × D)} : Rp B F v d → RpK B F vs ds → RpK B F ((k, v) :: vs) ((keyD k, d) :: ds)
inductive RpX (B : Bx) (F : Hp) : List (NestedKey × Addr × Value) → List (D × D) → Prop
  | nil : RpX B F [] []
  | cons {k : NestedKey} {a : Addr} {u : Value} {v : V} {vs : List (NestedKey × Addr × Value)} {c d : D} {ds : List (D × D)} : Rp B F (.ref a) c → nk c = some k → k.depth ≤ 8 → RelV v u → Rp B F v d → RpX B F vs ds → RpX B F ((k, a, u) :: vs) ((c, d) :: ds)
end

mutual
theorem Rp.mono {B : Bx} {F F' : Hp} (e : Ex F F') : ∀ {v : V} {d : D}, Rp B F v d → Rp B F' v d
  | _, _, .non => .non
  | _, _, .bl b => .bl b
  | _, _, .int i => .int i
  | _, _, .str x => .str x
  | _, _, .ty n => .ty n
  | _, _, .cls n => .cls n
  | _, _, .ref a => .ref a
  | _, _, .lst h a => .lst (Evl.ex_l e h) (RpAll.mono e a)
  | _, _, .tup h a => .tup (Evl.ex_t e h) (RpAll.mono e a)
  | _, _, .obj h a => .obj (e _ _ h) (RpF.mono e a)
  | _, _, .exc h => .exc (e _ _ h)
  | _, _, .dic h a => .dic (e _ _ h) (RpK.mono e a)
  | _, _, .dit h a => .dit (e _ _ h) (RpX.mono e a)
theorem RpAll.mono {B : Bx} {F F' : Hp} (e : Ex F F') : ∀ {v : List V} {d : List D}, RpAll B F v d → RpAll B F' v d
  | _, _, .nil => .nil
  | _, _, .cons h t => .cons (Rp.mono e h) (RpAll.mono e t)
theorem RpF.mono {B : Bx} {F F' : Hp} (e : Ex F F') : ∀ {v : List (Str × V)} {d : List (Str × D)}, RpF B F v d → RpF B F' v d
  | _, _, .nil => .nil
  | _, _, .cons h t => .cons (Rp.mono e h) (RpF.mono e t)
theorem RpK.mono {B : Bx} {F F' : Hp} (e : Ex F F') : ∀ {v : List (Key × V)} {d : List (D × D)}, RpK B F v d → RpK B F' v d
  | _, _, .nil => .nil
  | _, _, .cons h t => .cons (Rp.mono e h) (RpK.mono e t)
theorem RpX.mono {B : Bx} {F F' : Hp} (e : Ex F F') : ∀ {v : List (NestedKey × Addr × Value)} {d : List (D × D)}, RpX B F v d → RpX B F' v d
  | _, _, .nil => .nil
  | _, _, .cons c n n8 r h t => .cons (Rp.mono e c) n n8 r (Rp.mono e h) (RpX.mono e t)
end

section
variable {B : Bx} {F F' : Hp}
theorem RpAll.length : ∀ {vs : List V} {ds : List D}, RpAll B F vs ds → vs.length = ds.length
  | _, _, .nil => rfl
  | _, _, .cons _ t => congrArg (· + 1) t.length
theorem RpAll.get : ∀ {vs : List V} {ds : List D} {i : Nat} {d : D}, RpAll B F vs ds → ds[i]? = some d → ∃ v, vs[i]? = some v ∧ Rp B F v d
  | _, _, _, _, .nil, e => by simp at e
  | _, _, 0, _, .cons h _, e => by simp at e; subst e; exact ⟨_, rfl, h⟩
  | _, _, i + 1, d, .cons _ t, e => by
    obtain ⟨v, h1, h2⟩ := RpAll.get (i := i) (d := d) t (by simpa using e)
    exact ⟨v, by simpa using h1, h2⟩
theorem RpAll.append : ∀ {vs us : List V} {ds es : List D}, RpAll B F vs ds → RpAll B F us es → RpAll B F (vs ++ us) (ds ++ es)
  | _, _, _, _, .nil, s => s
  | _, _, _, _, .cons r t, s => .cons r (RpAll.append t s)
theorem RpAll.take : ∀ {vs : List V} {ds : List D} (n : Nat), RpAll B F vs ds → RpAll B F (vs.take n) (ds.take n)
  | _, _, 0, _ => .nil
  | _, _, _ + 1, .nil => .nil
  | _, _, n + 1, .cons r t => .cons r (RpAll.take n t)
theorem RpAll.drop : ∀ {vs : List V} {ds : List D} (n : Nat), RpAll B F vs ds → RpAll B F (vs.drop n) (ds.drop n)
  | _, _, 0, r => r
  | _, _, _ + 1, .nil => .nil
  | _, _, n + 1, .cons _ t => RpAll.drop n t
theorem RpAll.set {v : V} {d : D} (r : Rp B F v d) : ∀ {vs : List V} {ds : List D} (i : Nat), RpAll B F vs ds → RpAll B F (vs.set i v) (ds.set i d)
  | _, _, _, .nil => .nil
  | _, _, 0, .cons _ t => .cons r t
  | _, _, i + 1, .cons q t => .cons q (RpAll.set r i t)
theorem RpAll.reverse {vs : List V} {ds : List D} (h : RpAll B F vs ds) : RpAll B F vs.reverse ds.reverse := by
  induction vs generalizing ds with
  | nil => cases h; exact .nil
  | cons v vs ih =>
    cases h with
    | cons r t =>
      rw [List.reverse_cons, List.reverse_cons]
      exact (ih t).append (.cons r .nil)
theorem RpAll.dropLast {vs : List V} {ds : List D} (h : RpAll B F vs ds) : RpAll B F vs.dropLast ds.dropLast := by
  rw [List.dropLast_eq_take, List.dropLast_eq_take, h.length]
  exact h.take _
theorem RpAll.eraseIdx : ∀ {vs : List V} {ds : List D} (i : Nat), RpAll B F vs ds → RpAll B F (vs.eraseIdx i) (ds.eraseIdx i)
  | _, _, _, .nil => .nil
  | _, _, 0, .cons _ t => t
  | _, _, i + 1, .cons r t => .cons r (RpAll.eraseIdx i t)
theorem RpAll.strs : ∀ {vs : List V} {ss : List Str}, RpAll B F vs (ss.map D.str) → vs = ss.map V.str
  | _, [], .nil => rfl
  | _, _ :: _, .cons h t => by cases h; rw [t.strs]; rfl
theorem RpAll.of_strs : ∀ (ss : List Str), RpAll B F (ss.map V.str) (ss.map D.str)
  | [] => .nil
  | s :: ss => .cons (.str s) (RpAll.of_strs ss)
theorem RpAll.of_ints : ∀ (ss : List Int), RpAll B F (ss.map V.int) (ss.map D.int)
  | [] => .nil
  | s :: ss => .cons (.int s) (RpAll.of_ints ss)
theorem RpAll.bls : ∀ {vs : List V} {ss : List Bool}, RpAll B F vs (ss.map D.bl) → vs = ss.map V.bl
  | _, [], .nil => rfl
  | _, _ :: _, .cons h t => by cases h; rw [t.bls]; rfl
theorem RpF.lookup {f : Str} {d : D} : ∀ {fv : List (Str × V)} {fs : List (Str × D)}, RpF B F fv fs → fs.lookup f = some d → ∃ v, fv.lookup f = some v ∧ Rp B F v d
  | _, _, .nil, e => by simp at e
  | _, _, .cons (f := g) h t, e => by
    rw [List.lookup_cons] at e ⊢
    cases q : f == g with
    | true => rw [q] at e; cases e; exact ⟨_, rfl, h⟩
    | false => rw [q] at e; exact RpF.lookup t e
theorem RpF.none {f : Str} : ∀ {fv : List (Str × V)} {fs : List (Str × D)}, RpF B F fv fs → fs.lookup f = none → fv.lookup f = none
  | _, _, .nil, _ => rfl
  | _, _, .cons (f := g) h t, e => by
    rw [List.lookup_cons] at e ⊢
    cases q : f == g with
    | true => rw [q] at e; cases e
    | false => rw [q] at e; exact RpF.none t e
theorem RpF.length : ∀ {vs : List (Str × V)} {ds : List (Str × D)}, RpF B F vs ds → vs.length = ds.length
  | _, _, .nil => rfl
  | _, _, .cons _ t => congrArg (· + 1) t.length
end

/-! ### worlds -/
structure Wd where
  F : Hp
  H : Hp
  ok : Ex F H
structure Wd.le (W W' : Wd) : Prop where
  f : Ex W.F W'.F
  h : Ex W.H W'.H
  n : ∀ a, W.H a ≠ none → W.F a = none → W'.F a = none
theorem Wd.le.refl (W : Wd) : W.le W := ⟨Ex.refl _, Ex.refl _, fun _ _ h => h⟩
theorem ex_some {H H' : Hp} (e : Ex H H') {a : Addr} (h : H a ≠ none) : H' a ≠ none := by
  cases q : H a with
  | none => exact absurd q h
  | some o => rw [e a o q]; exact fun z => by cases z
theorem ex_none {H H' : Hp} (e : Ex H H') {a : Addr} (h : H' a = none) : H a = none := by
  cases q : H a with
  | none => rfl
  | some o => rw [e a o q] at h; cases h
theorem Wd.le.trans {W W' W'' : Wd} (a : W.le W') (b : W'.le W'') : W.le W'' :=
  ⟨a.f.trans b.f, a.h.trans b.h, fun x h1 h2 => b.n x (ex_some a.h h1) (a.n x h1 h2)⟩
theorem upd_ex {H : Hp} {p : Addr} {o : HO} (h : H p = none) : Ex H (upd H p o) := Ex.new h
theorem Wd.fnone (W : Wd) {p : Addr} (h : W.H p = none) : W.F p = none := ex_none W.ok h
theorem upd_upd_ex {F H : Hp} (e : Ex F H) {p : Addr} {o : HO} : Ex (upd F p o) (upd H p o) := fun a u h => by
  by_cases z : a = p
  · subst z; rw [upd_same] at h ⊢; exact h
  · rw [upd_ne z] at h ⊢; exact e a u h
theorem ex_upd {F H : Hp} (e : Ex F H) {p : Addr} {o : HO} (hp : F p = none) : Ex F (upd H p o) := Ex.mut e hp
/-- a new frozen object -/
def Wd.new (W : Wd) (p : Addr) (o : HO) : Wd := ⟨upd W.F p o, upd W.H p o, upd_upd_ex W.ok⟩
theorem Wd.le_new (W : Wd) {p : Addr} {o : HO} (hp : W.H p = none) : W.le (W.new p o) :=
  ⟨upd_ex (W.fnone hp), upd_ex hp, fun a h1 h2 => by
    show upd W.F p o a = none
    rw [upd_ne (fun z => by subst z; exact h1 hp)]; exact h2⟩
/-- a new object that is not frozen -/
def Wd.lay (W : Wd) (p : Addr) (o : HO) (hp : W.F p = none) : Wd := ⟨W.F, upd W.H p o, ex_upd W.ok hp⟩
theorem Wd.le_lay (W : Wd) {p : Addr} {o : HO} (hp : W.H p = none) : W.le (W.lay p o (W.fnone hp)) := ⟨Ex.refl _, upd_ex hp, fun _ _ h => h⟩
/-- what stands at p is frozen -/
def Wd.frz (W : Wd) (p : Addr) (o : HO) (h : W.H p = some o) : Wd := ⟨upd W.F p o, W.H, fun a u q => by
  by_cases z : a = p
  · subst z; rw [upd_same] at q; rw [h]; exact q
  · rw [upd_ne z] at q; exact W.ok a u q⟩

/-! ### the store of mutable objects -/
inductive Ob where
  | lst (ds : List D)
  | dic (t : Bool) (ks : List (D × D))
  | ins (n : Str) (fs : List (Str × D))
abbrev Mu := Addr → Option Ob
/-- a dict of the pairs ks is what is tracked as o at a -/
def DicO (B : Bx) (F : Hp) (a : Addr) (t : Bool) (ks : List (D × D)) (o : Option HO) : Prop := (t = false ∧ ∃ kv ob, o = some (.ext (DkAt B a ob kv)) ∧ RpK B F kv ks) ∨ (t = true ∧ ∃ xs ob, o = some (.ext (RawD B a ob xs)) ∧ RpX B F xs ks)
def ObOk (B : Bx) (F : Hp) (a : Addr) (o : Option HO) : Option Ob → Prop
  | none => True
  | some (.lst ds) => ∃ vs, o = some (.lst vs) ∧ RpAll B F vs ds
  | some (.dic t ks) => DicO B F a t ks o
  | some (.ins n fs) => ∃ dx fv, o = some (.ins (B.cl n) dx fv) ∧ RpF B F fv fs
theorem DicO.mono {B : Bx} {F F' : Hp} {a : Addr} {t : Bool} {ks : List (D × D)} {o : Option HO} (e : Ex F F') (h : DicO B F a t ks o) : DicO B F' a t ks o := by
  rcases h with ⟨h0, kv, ob, h1, h2⟩ | ⟨h0, xs, ob, h1, h2⟩
  · exact .inl ⟨h0, kv, ob, h1, h2.mono e⟩
  · exact .inr ⟨h0, xs, ob, h1, h2.mono e⟩
theorem DicO.some {B : Bx} {F : Hp} {a : Addr} {t : Bool} {ks : List (D × D)} {o : Option HO} (h : DicO B F a t ks o) : o ≠ none := by
  rcases h with ⟨h0, kv, ob, h1, h2⟩ | ⟨h0, xs, ob, h1, h2⟩ <;> rw [h1] <;> exact fun z => by cases z
theorem ObOk.mono {B : Bx} {F F' : Hp} {a : Addr} {o : Option HO} (e : Ex F F') : ∀ {ob : Option Ob}, ObOk B F a o ob → ObOk B F' a o ob
  | none, _ => trivial
  | some (.lst _), ⟨vs, h1, h2⟩ => ⟨vs, h1, h2.mono e⟩
  | some (.dic _ _), h => DicO.mono e h
  | some (.ins _ _), ⟨dx, fv, h1, h2⟩ => ⟨dx, fv, h1, h2.mono e⟩
theorem ObOk.ne {B : Bx} {F : Hp} {a : Addr} {o : Option HO} : ∀ {ob : Ob}, ObOk B F a o (some ob) → o ≠ none
  | .lst _, ⟨vs, h1, h2⟩ => by rw [h1]; exact fun z => by cases z
  | .dic _ _, h => DicO.some h
  | .ins _ _, ⟨dx, fv, h1, h2⟩ => by rw [h1]; exact fun z => by cases z
/-- what is tracked: the world's heap and, beside it, the mutable objects -/
def cat (H m : Hp) : Hp := fun a => match H a with | some o => some o | none => m a
theorem cat_some {H m : Hp} {a : Addr} {o : HO} (h : H a = some o) : cat H m a = some o := by unfold cat; rw [h]
theorem cat_none {H m : Hp} {a : Addr} (h : H a = none) : cat H m a = m a := by unfold cat; rw [h]
theorem cat_ex (H m : Hp) : Ex H (cat H m) := fun _ _ h => cat_some h
theorem cat_new {H m : Hp} {a : Addr} (h : cat H m a = none) : H a = none ∧ m a = none := by
  cases q : H a with
  | none => exact ⟨rfl, (cat_none q).symm.trans h⟩
  | some o => rw [cat_some q] at h; cases h
theorem cat_upd {H m : Hp} {a : Addr} {o : HO} : upd (cat H m) a o = cat (upd H a o) m := by
  funext b
  by_cases z : b = a
  · subst z; rw [upd_same, cat_some upd_same]
  · rw [upd_ne z]; unfold cat; rw [upd_ne z]
theorem cat_updm {H m : Hp} {a : Addr} {o : HO} (h : H a = none) : upd (cat H m) a o = cat H (upd m a o) := by
  funext b
  by_cases z : b = a
  · subst z; rw [upd_same, cat_none h, upd_same]
  · rw [upd_ne z]; unfold cat; rw [upd_ne z]
structure MOk (B : Bx) (W : Wd) (M : Mu) (m : Hp) : Prop where
  dj : ∀ a, W.H a ≠ none → m a = none
  ok : ∀ a, ObOk B W.F a (m a) (M a)
section
variable {B : Bx} {W W' : Wd} {M M' : Mu} {m m' : Hp}
theorem MOk.weak (h : MOk B W M' m) (e : ∀ a ob, M a = some ob → M' a = some ob) : MOk B W M m := ⟨h.dj, fun a => by
  cases q : M a with
  | none => trivial
  | some ob => have := h.ok a; rw [e a ob q] at this; exact this⟩
theorem MOk.hn (h : MOk B W M m) {a : Addr} {ob : Ob} (e : M a = some ob) : W.H a = none := by
  have q := h.ok a
  rw [e] at q
  cases z : W.H a with
  | none => rfl
  | some o => exact absurd (h.dj a (by rw [z]; exact fun y => by cases y)) q.ne
/-- the world grows by an object at a free place -/
theorem MOk.new (h : MOk B W M m) {p : Addr} {o : HO} (hp : cat W.H m p = none) : MOk B (W.new p o) M m := by
  obtain ⟨h1, h2⟩ := cat_new hp
  refine ⟨fun a ha => ?_, fun a => (h.ok a).mono (upd_ex (W.fnone h1))⟩
  by_cases z : a = p
  · subst z; exact h2
  · refine h.dj a ?_
    have : (W.new p o).H a = W.H a := upd_ne z
    rw [← this]; exact ha
theorem MOk.lay (h : MOk B W M m) {p : Addr} {o : HO} (hp : cat W.H m p = none) : MOk B (W.lay p o (W.fnone (cat_new hp).1)) M m := by
  obtain ⟨h1, h2⟩ := cat_new hp
  refine ⟨fun a ha => ?_, fun a => h.ok a⟩
  by_cases z : a = p
  · subst z; exact h2
  · refine h.dj a ?_
    have : (W.lay p o (W.fnone h1)).H a = W.H a := upd_ne z
    rw [← this]; exact ha
theorem MOk.frz (h : MOk B W M m) {p : Addr} {o : HO} (hp : W.H p = some o) (hf : W.F p = none) : MOk B (W.frz p o hp) M m := ⟨h.dj, fun a => (h.ok a).mono (upd_ex hf)⟩
def updM (M : Mu) (a : Addr) (o : Ob) : Mu := fun b => if b = a then some o else M b
theorem updM_same {a : Addr} {o : Ob} : updM M a o a = some o := by unfold updM; rw [if_pos rfl]
theorem updM_ne {a b : Addr} {o : Ob} (h : b ≠ a) : updM M a o b = M b := by unfold updM; rw [if_neg h]
/-- a store at a, which the world does not track -/
theorem MOk.put (h : MOk B W M m) {a : Addr} {ob : Ob} {o : HO} (ha : W.H a = none) (ho : ObOk B W.F a (some o) (some ob)) : MOk B W (updM M a ob) (upd m a o) := ⟨fun b hb => by
    have z : b ≠ a := fun z => by subst z; exact hb ha
    rw [upd_ne z]; exact h.dj b hb, fun b => by
    by_cases z : b = a
    · subst z; rw [upd_same, updM_same]; exact ho
    · rw [upd_ne z, updM_ne z]; exact h.ok b⟩
end
/-- what a pointer points to -/
def drfO (a : Addr) : Option Ob → D
  | some (.lst ds) => .lst ds
  | some (.dic t ks) => .dic t ks
  | some (.ins n fs) => .obj n fs
  | none => .ref a
def drf (M : Mu) : D → D
  | .ref a => drfO a (M a)
  | d => d

/-! ### what may be read -/
def RpR (B : Bx) (F H : Hp) (v : V) : D → Prop
  | .lst ds => ∃ a vs, v = .ref a ∧ SqL B.K H a vs ∧ RpAll B F vs ds
  | .obj n fs => ∃ a dx fv, v = .ref a ∧ H a = some (.ins (B.cl n) dx fv) ∧ RpF B F fv fs
  | .dic t ks => ∃ a, v = .ref a ∧ DicO B F a t ks (H a)
  | d => Rp B F v d
section
variable {B : Bx} {F F' H H' : Hp} {v : V} {d : D}
theorem Rp.r (ok : Ex F H) (h : Rp B F v d) : RpR B F H v d := by
  cases h with
  | lst h a => exact ⟨_, _, rfl, Evl.ex_l ok h, a⟩
  | obj h a => exact ⟨_, _, _, rfl, ok _ _ h, a⟩
  | dic h a => exact ⟨_, rfl, .inl ⟨rfl, _, _, ok _ _ h, a⟩⟩
  | dit h a => exact ⟨_, rfl, .inr ⟨rfl, _, _, ok _ _ h, a⟩⟩
  | non => exact .non
  | bl b => exact .bl b
  | int i => exact .int i
  | str x => exact .str x
  | ty n => exact .ty n
  | cls n => exact .cls n
  | ref a => exact .ref a
  | tup h a => exact .tup h a
  | exc h => exact .exc h
theorem RpR.cases' (P : Prop) (h : RpR B F H v d) (h1 : Rp B F v d → P) (h2 : ∀ ds a vs, d = .lst ds → v = .ref a → SqL B.K H a vs → RpAll B F vs ds → P)
    (h3 : ∀ n fs a dx fv, d = .obj n fs → v = .ref a → H a = some (.ins (B.cl n) dx fv) → RpF B F fv fs → P) (h4 : ∀ t ks a, d = .dic t ks → v = .ref a → DicO B F a t ks (H a) → P) : P := by
  cases d with
  | lst ds => obtain ⟨a, vs, e1, e2, e3⟩ := h; exact h2 ds a vs rfl e1 e2 e3
  | obj C fs => obtain ⟨a, dx, vs, e1, e2, e3⟩ := h; exact h3 C fs a dx vs rfl e1 e2 e3
  | dic t ks => obtain ⟨a, e1, e2⟩ := h; exact h4 t ks a rfl e1 e2
  | non => exact h1 h
  | bl _ => exact h1 h
  | int _ => exact h1 h
  | str _ => exact h1 h
  | ty _ => exact h1 h
  | cls _ => exact h1 h
  | ref _ => exact h1 h
  | tup _ => exact h1 h
  | exc _ => exact h1 h
theorem DicO.ex {a : Addr} {t : Bool} {ks : List (D × D)} (h : DicO B F a t ks (H a)) (e : Ex H H') : DicO B F a t ks (H' a) := by
  rcases h with ⟨h0, kv, ob, h1, h2⟩ | ⟨h0, xs, ob, h1, h2⟩
  · exact .inl ⟨h0, kv, ob, e _ _ h1, h2⟩
  · exact .inr ⟨h0, xs, ob, e _ _ h1, h2⟩
theorem RpR.mono (h : RpR B F H v d) (f : Ex F F') (ok : Ex F' H') (e : Ex H H') : RpR B F' H' v d :=
  h.cases' _ (fun h => (h.mono f).r ok) (fun ds a vs e0 e1 e2 e3 => by subst e0; exact ⟨a, vs, e1, Evl.ex_l e e2, e3.mono f⟩)
    (fun n fs a dx fv e0 e1 e2 e3 => by subst e0; exact ⟨a, dx, fv, e1, e _ _ e2, e3.mono f⟩) fun t ks a e0 e1 e2 => by subst e0; exact ⟨a, e1, (e2.mono f).ex e⟩
theorem RpR.le {W W' : Wd} (h : RpR B W.F W.H v d) (le : W.le W') : RpR B W'.F W'.H v d := h.mono le.f W'.ok le.h
theorem Rp.rd {W : Wd} (h : Rp B W.F v d) : RpR B W.F W.H v d := h.r W.ok
theorem Rp.le {W W' : Wd} (h : Rp B W.F v d) (le : W.le W') : Rp B W'.F v d := h.mono le.f
/-- pointers followed -/
theorem RpR.drf {W : Wd} {M : Mu} {m : Hp} (h : RpR B W.F W.H v d) (k : MOk B W M m) : RpR B W.F (cat W.H m) v (Z.drf M d) := by
  have e := cat_ex W.H m
  cases d with
  | ref a =>
    cases h with
    | ref _ =>
      have q := k.ok a
      show RpR B W.F (cat W.H m) (.ref a) (drfO a (M a))
      cases z : M a with
      | none => exact Rp.ref a
      | some ob =>
        have hn := k.hn z
        rw [z] at q
        cases ob with
        | lst ds => obtain ⟨vs, q1, q2⟩ := q; exact ⟨a, vs, rfl, SqL.of ((cat_none hn).trans q1), q2⟩
        | dic t ks => exact ⟨a, rfl, by rw [cat_none hn]; exact q⟩
        | ins n fs => obtain ⟨dx, fv, q1, q2⟩ := q; exact ⟨a, dx, fv, rfl, (cat_none hn).trans q1, q2⟩
  | non => exact h
  | bl _ => exact h
  | int _ => exact h
  | str _ => exact h
  | ty _ => exact h
  | cls _ => exact h
  | tup _ => exact h
  | exc _ => exact h
  | lst ds => exact RpR.mono h (Ex.refl _) (W.ok.trans e) e
  | obj n ds => exact RpR.mono h (Ex.refl _) (W.ok.trans e) e
  | dic t ks => exact RpR.mono h (Ex.refl _) (W.ok.trans e) e
end

/-! ### slots -/
inductive Ent where
  | un
  | dat (d : D)
  | own (ds : List D)
  | dk (t : Bool) (ks : List (D × D))
  | bor (d : D)
def Ent.ownd : Ent → Bool
  | .own _ => true
  | .dk _ _ => true
  | _ => false
def ga : List Ent → Nat → Ent
  | [], _ => .un
  | e :: _, 0 => e
  | _ :: r, n + 1 => ga r n
theorem ga_set : ∀ (ρ : List Ent) (i j : Nat) (e : Ent), ga (ρ.set i e) j = if i = j then (if i < ρ.length then e else .un) else ga ρ j
  | [], i, j, e => by simp [ga]
  | x :: r, 0, 0, e => by simp [ga]
  | x :: r, 0, j + 1, e => by simp [ga]
  | x :: r, i + 1, 0, e => by simp [ga]
  | x :: r, i + 1, j + 1, e => by
    show ga (r.set i e) j = _
    rw [ga_set r i j e]
    simp [ga]
theorem ga_lt : ∀ {ρ : List Ent} {i : Nat}, ga ρ i ≠ .un → i < ρ.length
  | [], i, h => absurd rfl h
  | x :: r, 0, h => by simp
  | x :: r, i + 1, h => by
    have := ga_lt (ρ := r) (i := i) h
    simp; omega

def EntOk (B : Bx) (W0 W : Wd) (σ : L2.St) (i : Nat) (a : Addr) : Ent → Prop
  | .un => True
  | .dat d => ∃ v, σ[i]? = some (some v) ∧ Rp B W.F v d
  | .own ds => ∃ vs, σ[i]? = some (some (.ref a)) ∧ W.H a = some (.lst vs) ∧ W.F a = none ∧ W0.H a = none ∧ RpAll B W.F vs ds
  | .dk t ks => σ[i]? = some (some (.ref a)) ∧ DicO B W.F a t ks (W.H a) ∧ W.F a = none ∧ W0.H a = none
  | .bor d => ∃ v, σ[i]? = some (some v) ∧ (RpR B W.F W0.H v d ∨ Rp B W.F v d)
structure Rel (B : Bx) (W0 W : Wd) (σ : L2.St) (ρ : List Ent) : Prop where
  le : W0.le W
  len : σ.length = ρ.length
  ex : ∃ ad : Nat → Addr, (∀ i j, i ≠ j → (ga ρ i).ownd = true → (ga ρ j).ownd = true → ad i ≠ ad j) ∧ ∀ i, EntOk B W0 W σ i (ad i) (ga ρ i)

section
variable {B : Bx} {W0 W W' : Wd} {σ : L2.St} {ρ : List Ent}
theorem RpR.monoF {F F' H : Hp} {v : V} {d : D} (h : RpR B F H v d) (f : Ex F F') : RpR B F' H v d := by
  cases d with
  | lst ds => obtain ⟨a, vs, h1, h2, h3⟩ := h; exact ⟨a, vs, h1, h2, h3.mono f⟩
  | obj C fs => obtain ⟨a, dx, vs, h1, h2, h3⟩ := h; exact ⟨a, dx, vs, h1, h2, h3.mono f⟩
  | dic t ks => obtain ⟨a, h1, h2⟩ := h; exact ⟨a, h1, h2.mono f⟩
  | non => exact Rp.mono f h
  | bl _ => exact Rp.mono f h
  | int _ => exact Rp.mono f h
  | str _ => exact Rp.mono f h
  | ty _ => exact Rp.mono f h
  | cls _ => exact Rp.mono f h
  | ref _ => exact Rp.mono f h
  | tup _ => exact Rp.mono f h
  | exc _ => exact Rp.mono f h
theorem EntOk.mono (le : W.le W') {i : Nat} {a : Addr} {e : Ent} (h : EntOk B W0 W σ i a e) : EntOk B W0 W' σ i a e := by
  cases e with
  | un => trivial
  | dat d => obtain ⟨v, h1, h2⟩ := h; exact ⟨v, h1, h2.mono le.f⟩
  | own ds =>
    obtain ⟨vs, h1, h2, h3, h4, h5⟩ := h
    exact ⟨vs, h1, le.h _ _ h2, le.n _ (by rw [h2]; exact fun z => by cases z) h3, h4, h5.mono le.f⟩
  | bor d =>
    obtain ⟨v, h1, h2⟩ := h
    exact ⟨v, h1, h2.imp (fun z => z.monoF le.f) fun z => z.mono le.f⟩
  | dk t ks =>
    obtain ⟨h1, h2, h3, h4⟩ := h
    exact ⟨h1, (h2.mono le.f).ex le.h, le.n _ h2.some h3, h4⟩
theorem Rel.mono (h : Rel B W0 W σ ρ) (le : W.le W') : Rel B W0 W' σ ρ := by
  obtain ⟨h1, h2, ad, h3, h4⟩ := h
  exact ⟨h1.trans le, h2, ad, h3, fun i => (h4 i).mono le⟩
theorem EntOk.slot {σ' : L2.St} {i : Nat} {a : Addr} {e : Ent} (h : EntOk B W0 W σ i a e) (q : σ'[i]? = σ[i]?) : EntOk B W0 W σ' i a e := by
  cases e with
  | un => trivial
  | dat d => obtain ⟨v, h1, h2⟩ := h; exact ⟨v, q.trans h1, h2⟩
  | own ds => obtain ⟨vs, h1, h2⟩ := h; exact ⟨vs, q.trans h1, h2⟩
  | bor ds => obtain ⟨b, h1, h2⟩ := h; exact ⟨b, q.trans h1, h2⟩
  | dk t ds => obtain ⟨h1, h2⟩ := h; exact ⟨q.trans h1, h2⟩
theorem EntOk.there {i : Nat} {a : Addr} {e : Ent} (h : EntOk B W0 W σ i a e) (o : e.ownd = true) : W.H a ≠ none := by
  cases e with
  | un => cases o
  | dat d => cases o
  | bor d => cases o
  | own ds => obtain ⟨vs, _, q, _⟩ := h; rw [q]; exact fun z => by cases z
  | dk t ds => obtain ⟨_, q, _⟩ := h; exact q.some
/-- the general store: slot i gets v, told as e, which is owned at a new address or not at all -/
theorem Rel.store (h : Rel B W0 W σ ρ) (le : W.le W') {i : Nat} {v : Option V} {e : Ent} {b : Addr}
    (he : i < ρ.length → EntOk B W0 W' (σ.set i v) i b e) (hb : e.ownd = true → W.H b = none) : Rel B W0 W' (σ.set i v) (ρ.set i e) := by
  obtain ⟨h1, h2, ad, h3, h4⟩ := h
  have old : ∀ j, (ga ρ j).ownd = true → W.H (ad j) ≠ none := fun j hj => (h4 j).there hj
  refine ⟨h1.trans le, by rw [List.length_set, List.length_set, h2], fun j => if j = i then b else ad j, fun j k hjk hj hk => ?_, fun j => ?_⟩
  · rw [ga_set] at hj hk
    dsimp only
    by_cases z1 : j = i
    · have z2 : ¬ k = i := fun z => hjk (z1.trans z.symm)
      rw [if_pos z1, if_neg z2]
      rw [if_pos z1.symm] at hj
      rw [if_neg (Ne.symm z2)] at hk
      split at hj
      · intro z; exact old k hk (by rw [← z]; exact hb hj)
      · cases hj
    · by_cases z2 : k = i
      · rw [if_neg z1, if_pos z2]
        rw [if_pos z2.symm] at hk
        rw [if_neg (Ne.symm z1)] at hj
        split at hk
        · intro z; exact old j hj (by rw [z]; exact hb hk)
        · cases hk
      · rw [if_neg z1, if_neg z2]
        rw [if_neg (Ne.symm z1)] at hj
        rw [if_neg (Ne.symm z2)] at hk
        exact h3 j k hjk hj hk
  · rw [ga_set]
    dsimp only
    by_cases z : i = j
    · subst z
      rw [if_pos rfl, if_pos rfl]
      split
      · rename_i hl; exact he hl
      · trivial
    · rw [if_neg z, if_neg (Ne.symm z)]
      exact ((h4 j).mono le).slot (List.getElem?_set_ne z)
theorem Rel.set (h : Rel B W0 W σ ρ) {i : Nat} {v : V} {d : D} (hv : Rp B W.F v d) : Rel B W0 W (σ.set i (some v)) (ρ.set i (.dat d)) :=
  h.store (b := 0) (Wd.le.refl W) (fun hl => ⟨v, List.getElem?_set_self (by rw [h.len]; exact hl), hv⟩) fun z => by cases z
theorem Rel.unset (h : Rel B W0 W σ ρ) {i : Nat} : Rel B W0 W (σ.set i none) (ρ.set i .un) :=
  h.store (b := 0) (Wd.le.refl W) (fun _ => trivial) fun z => by cases z
theorem Rel.dat (h : Rel B W0 W σ ρ) {i : Nat} {d : D} (e : ga ρ i = .dat d) : ∃ v, σ[i]? = some (some v) ∧ Rp B W.F v d := by
  obtain ⟨_, _, ad, _, h4⟩ := h
  have q := h4 i
  rw [e] at q
  exact q
end

/-! ### re-anchoring -/
def reH (W0 W1 : Wd) : Hp := fun a => match W0.H a with | some o => some o | none => W1.F a
theorem reH_some {W0 W1 : Wd} {a : Addr} {o : HO} (h : W0.H a = some o) : reH W0 W1 a = some o := by unfold reH; rw [h]
theorem reH_none {W0 W1 : Wd} {a : Addr} (h : W0.H a = none) : reH W0 W1 a = W1.F a := by unfold reH; rw [h]
def Wd.re (W0 W1 : Wd) (le : W0.le W1) : Wd := ⟨W1.F, reH W0 W1, fun a o h => by
  cases q : W0.H a with
  | none => rw [reH_none q]; exact h
  | some o' =>
    rw [reH_some q]
    have e1 := le.h a o' q
    have e2 := W1.ok a o h
    rw [e1] at e2; exact e2⟩
section
variable {B : Bx} {W0 W1 W : Wd} {σ : L2.St} {ρ : List Ent}
theorem Wd.re_le (le : W0.le W1) : (W0.re W1 le).le W1 := ⟨Ex.refl _, fun a o h => by
    have h : reH W0 W1 a = some o := h
    cases q : W0.H a with
    | none => rw [reH_none q] at h; exact W1.ok a o h
    | some o' => rw [reH_some q] at h; cases h; exact le.h a _ q, fun _ _ h => h⟩
theorem Wd.le_re (le : W0.le W1) : Ex W0.H (W0.re W1 le).H := fun a o h => reH_some h
theorem Rel.re (h : Rel B W0 W1 σ ρ) : Rel B (W0.re W1 h.le) W1 σ ρ := by
  refine ⟨Wd.re_le _, h.len, ?_⟩
  obtain ⟨le, _, ad, h3, h4⟩ := h
  refine ⟨ad, h3, fun i => ?_⟩
  have q := h4 i
  have own : ∀ a, W0.H a = none → W1.F a = none → (W0.re W1 le).H a = none := fun a h1 h2 => (reH_none h1).trans h2
  cases z : ga ρ i with
  | un => trivial
  | dat d => rw [z] at q; exact q
  | own ds => rw [z] at q; obtain ⟨vs, q1, q2, q3, q4, q5⟩ := q; exact ⟨vs, q1, q2, q3, own _ q4 q3, q5⟩
  | bor ds =>
    rw [z] at q
    obtain ⟨b, q1, q2⟩ := q
    refine ⟨b, q1, q2.imp (fun z => ?_) id⟩
    exact z.mono (Ex.refl _) (W0.re W1 le).ok (Wd.le_re le)
  | dk t ds => rw [z] at q; obtain ⟨q1, q2, q3, q4⟩ := q; exact ⟨q1, q2, q3, own _ q4 q3⟩
theorem Wd.re_back {le : W0.le W1} (h : (W0.re W1 le).le W) : W0.le W :=
  ⟨le.f.trans h.f, (Wd.le_re le).trans h.h, fun a h1 h2 => h.n a (ex_some (Wd.le_re le) h1) (le.n a h1 h2)⟩
theorem Rel.back {le : W0.le W1} (h : Rel B (W0.re W1 le) W σ ρ) : Rel B W0 W σ ρ := by
  refine ⟨Wd.re_back h.le, h.len, ?_⟩
  obtain ⟨le', _, ad, h3, h4⟩ := h
  refine ⟨ad, h3, fun i => ?_⟩
  have q := h4 i
  have own : ∀ a, (W0.re W1 le).H a = none → W0.H a = none := fun a h1 => ex_none (Wd.le_re le) h1
  have at' : ∀ (a : Addr) (o : HO), (W0.re W1 le).H a = some o → W0.H a = some o ∨ W.F a = some o := fun a o r => by
    cases y : W0.H a with
    | none => exact .inr (le'.f a _ ((reH_none (W1 := W1) y).symm.trans r))
    | some o' => have := (reH_some (W1 := W1) y).symm.trans r; cases this; exact .inl rfl
  cases z : ga ρ i with
  | un => trivial
  | dat d => rw [z] at q; exact q
  | own ds => rw [z] at q; obtain ⟨vs, q1, q2, q3, q4, q5⟩ := q; exact ⟨vs, q1, q2, q3, own _ q4, q5⟩
  | bor d =>
    rw [z] at q
    obtain ⟨b, q1, q2⟩ := q
    refine ⟨b, q1, ?_⟩
    rcases q2 with q2 | q2
    · refine q2.cases' _ (fun h => .inr h) (fun ds a vs e0 e1 e2 e3 => ?_) (fun n fs a dx fv e0 e1 e2 e3 => ?_) fun t ks a e0 e1 e2 => ?_
      · subst e0; subst e1
        have rd : ∀ u, Rd (W0.re W1 le).H a u → Rd W0.H a u ∨ Rd W.F a u := fun u r => by
          rcases r with r | ⟨o, r⟩
          · exact (at' _ _ r).imp .inl .inl
          · exact (at' _ _ r).imp (fun y => .inr ⟨o, y⟩) fun y => .inr ⟨o, y⟩
        rcases e2 with e2 | e2
        · rcases rd _ e2 with y | y
          · exact .inl ⟨a, vs, rfl, .inl y, e3⟩
          · exact .inr (.lst (.inl y) e3)
        · exact .inl ⟨a, vs, rfl, .inr e2, e3⟩
      · subst e0; subst e1
        rcases at' _ _ e2 with y | y
        · exact .inl ⟨a, dx, fv, rfl, y, e3⟩
        · exact .inr (.obj y e3)
      · subst e0; subst e1
        rcases e2 with ⟨rfl, kv, ob, y1, y2⟩ | ⟨rfl, xs, ob, y1, y2⟩
        · rcases at' _ _ y1 with y | y
          · exact .inl ⟨a, rfl, .inl ⟨rfl, kv, ob, y, y2⟩⟩
          · exact .inr (.dic y y2)
        · rcases at' _ _ y1 with y | y
          · exact .inl ⟨a, rfl, .inr ⟨rfl, xs, ob, y, y2⟩⟩
          · exact .inr (.dit y y2)
    · exact .inr q2
  | dk t ds => rw [z] at q; obtain ⟨q1, q2, q3, q4⟩ := q; exact ⟨q1, q2, q3, own _ q4⟩
end
end Z

namespace Z
open PySem PySem.Spec PyProof.Rows L2
open Evl (Ex)

abbrev DTE := List Ent → Mu → (D → Mu → Prop) → (Str → Mu → Prop) → Prop
abbrev DTA := List Ent → Mu → (List D → Mu → Prop) → (Str → Mu → Prop) → Prop
abbrev DTT := List Ent → Mu → (Bool → Mu → Prop) → (Str → Mu → Prop) → Prop
structure DEnds where
  nx : List Ent → Mu → Prop
  rt : D → Mu → Prop
  bk : List Ent → Mu → Prop
  ct : List Ent → Mu → Prop
  ex : Str → List Ent → Mu → Prop
abbrev DTS := DEnds → List Ent → Mu → Prop
/-- a def's promise over data: the arguments, the store, what is wanted of the answer, what of an exception's class -/
abbrev SpM := List D → Mu → (D → Mu → Prop) → (Str → Mu → Prop) → Prop
/-- .. of one that leaves the store -/
abbrev SpD := List D → (D → Prop) → (Str → Prop) → Prop
def pur (sp : SpD) : SpM := fun ds M Q E => sp ds (fun d => Q d M) (fun C => E C M)
abbrev OpD := D → D → (D → Prop) → Prop

abbrev bx (X : Cx) : Bx := ⟨X.prog, X.w, X.K, X.mg⟩
theorem cat_q {H m : Hp} {a : Addr} {o : HO} {P : Hp → Prop} (h : P (cat (upd H a o) m)) : P (upd (cat H m) a o) := by rw [cat_upd]; exact h
theorem cat_qm {H m : Hp} {a : Addr} {o : HO} {P : Hp → Prop} (hn : H a = none) (h : P (cat H (upd m a o))) : P (upd (cat H m) a o) := by rw [cat_updm hn]; exact h

inductive ArgsOk (B : Bx) (W : Wd) : List Bool → List V → List D → Prop
  | nil : ArgsOk B W [] [] []
  | dat {ms : List Bool} {v : V} {vs : List V} {d : D} {ds : List D} : Rp B W.F v d → ArgsOk B W ms vs ds → ArgsOk B W (false :: ms) (v :: vs) (d :: ds)
  | bor {ms : List Bool} {v : V} {vs : List V} {d : D} {ds : List D} : RpR B W.F W.H v d → ArgsOk B W ms vs ds → ArgsOk B W (true :: ms) (v :: vs) (d :: ds)
/-- all are read -/
inductive RpRs (B : Bx) (F H : Hp) : List V → List D → Prop
  | nil : RpRs B F H [] []
  | cons {v : V} {vs : List V} {d : D} {ds : List D} : RpR B F H v d → RpRs B F H vs ds → RpRs B F H (v :: vs) (d :: ds)
section
variable {B : Bx} {W W' : Wd}
theorem ArgsOk.length {ms : List Bool} {vs : List V} {ds : List D} (h : ArgsOk B W ms vs ds) : vs.length = ds.length := by
  induction h with
  | nil => rfl
  | dat _ _ ih => exact congrArg (· + 1) ih
  | bor _ _ ih => exact congrArg (· + 1) ih
theorem ArgsOk.all {ms : List Bool} {vs : List V} {ds : List D} (h : ArgsOk B W ms vs ds) (hm : ms.any id = false) : RpAll B W.F vs ds := by
  induction h with
  | nil => exact .nil
  | dat r _ ih => exact .cons r (ih (by simpa using hm))
  | bor r _ ih => simp at hm
theorem ArgsOk.reads {ms : List Bool} {vs : List V} {ds : List D} {M : Mu} {m : Hp} (h : ArgsOk B W ms vs ds) (k : MOk B W M m) : RpRs B W.F (cat W.H m) vs (ds.map (drf M)) := by
  induction h with
  | nil => exact .nil
  | dat r _ ih => exact .cons (r.rd.drf k) ih
  | bor r _ ih => exact .cons (r.drf k) ih
theorem ArgsOk.le {ms : List Bool} {vs : List V} {ds : List D} (h : ArgsOk B W ms vs ds) (le : W.le W') : ArgsOk B W' ms vs ds := by
  induction h with
  | nil => exact .nil
  | dat r _ ih => exact .dat (r.le le) ih
  | bor r _ ih => exact .bor (r.le le) ih
theorem RpRs.length {F H : Hp} {vs : List V} {ds : List D} (h : RpRs B F H vs ds) : vs.length = ds.length := by
  induction h with
  | nil => rfl
  | cons _ _ ih => exact congrArg (· + 1) ih
end

/-! ### refinement of readings by conditions over data -/
abbrev ExK (B : Bx) (wx : WX) (W : Wd) (σ : L2.St) (Ed : Str → Mu → Prop) : Prop := ∀ C W' m' M', Ed C M' → W.le W' → MOk B W' M' m' → wx (.ref (B.cl C)) none σ (cat W'.H m')
theorem ExK.up {B : Bx} {wx : WX} {W W' : Wd} {σ : L2.St} {Ed : Str → Mu → Prop} (h : ExK B wx W σ Ed) (le : W.le W') : ExK B wx W' σ Ed := fun C W2 m2 M2 q l k => h C W2 m2 M2 q (le.trans l) k
def RfE (B : Bx) (wx : WX) (t : TE) (T : DTE) : Prop := ∀ (W0 W : Wd) (m : Hp) (σ : L2.St) (ρ : List Ent) (M : Mu) (Q : VK) (Qd : D → Mu → Prop) (Ed : Str → Mu → Prop), Rel B W0 W σ ρ → MOk B W M m → T ρ M Qd Ed →
  (∀ d v W' m' M', Qd d M' → W.le W' → MOk B W' M' m' → Rp B W'.F v d → Q v (cat W'.H m')) → ExK B wx W σ Ed → t σ (cat W.H m) Q
def RfR (B : Bx) (wx : WX) (t : TE) (T : DTE) : Prop := ∀ (W0 W : Wd) (m : Hp) (σ : L2.St) (ρ : List Ent) (M : Mu) (Q : VK) (Qd : D → Mu → Prop) (Ed : Str → Mu → Prop), Rel B W0 W σ ρ → MOk B W M m → T ρ M Qd Ed →
  (∀ d v W' m' M', Qd d M' → W.le W' → MOk B W' M' m' → RpR B W'.F W'.H v d → Q v (cat W'.H m')) → ExK B wx W σ Ed → t σ (cat W.H m) Q
def RfM (B : Bx) (wx : WX) (ms : List Bool) (t : TA) (T : DTA) : Prop := ∀ (W0 W : Wd) (m : Hp) (σ : L2.St) (ρ : List Ent) (M : Mu) (Q : List V → Hp → Prop) (Qd : List D → Mu → Prop) (Ed : Str → Mu → Prop), Rel B W0 W σ ρ → MOk B W M m → T ρ M Qd Ed →
  (∀ ds vs W' m' M', Qd ds M' → W.le W' → MOk B W' M' m' → ArgsOk B W' ms vs ds → Q vs (cat W'.H m')) → ExK B wx W σ Ed → t σ (cat W.H m) Q
/-- a new list that is not frozen -/
def RfN (B : Bx) (wx : WX) (t : TE) (T : DTA) : Prop := ∀ (W0 W : Wd) (m : Hp) (σ : L2.St) (ρ : List Ent) (M : Mu) (Q : VK) (Qd : List D → Mu → Prop) (Ed : Str → Mu → Prop), Rel B W0 W σ ρ → MOk B W M m → T ρ M Qd Ed →
  (∀ ds p vs W' m' M', Qd ds M' → W.le W' → MOk B W' M' m' → W.H p = none → W'.H p = some (.lst vs) → W'.F p = none → RpAll B W'.F vs ds → Q (.ref p) (cat W'.H m')) → ExK B wx W σ Ed → t σ (cat W.H m) Q
def RfT (B : Bx) (wx : WX) (t : TT) (T : DTT) : Prop := ∀ (W0 W : Wd) (m : Hp) (σ : L2.St) (ρ : List Ent) (M : Mu) (Q : Bool → Hp → Prop) (Qd : Bool → Mu → Prop) (Ed : Str → Mu → Prop), Rel B W0 W σ ρ → MOk B W M m → T ρ M Qd Ed →
  (∀ b W' m' M', Qd b M' → W.le W' → MOk B W' M' m' → Q b (cat W'.H m')) → ExK B wx W σ Ed → t σ (cat W.H m) Q
def DE (X : Cx) (wx : WX) (e : Expr) (T : DTE) : Prop := ∃ t, PE X e t ∧ RfE (bx X) wx t T
def DR (X : Cx) (wx : WX) (e : Expr) (T : DTE) : Prop := ∃ t, PE X e t ∧ RfR (bx X) wx t T
def DN (X : Cx) (wx : WX) (e : Expr) (T : DTA) : Prop := ∃ t, PE X e t ∧ RfN (bx X) wx t T
def DM (X : Cx) (wx : WX) (ms : List Bool) (es : List Expr) (T : DTA) : Prop := ∃ t, PA X es t ∧ RfM (bx X) wx ms t T
def DT (X : Cx) (wx : WX) (e : Expr) (T : DTT) : Prop := ∃ t, PT X e t ∧ RfT (bx X) wx t T
/-- a test whatever its whole is -/
def DW (X : Cx) (wx : WX) (e : Expr) (T : DTT) : Prop := ∃ t, PW X e t ∧ RfT (bx X) wx t T

section
variable {X : Cx} {wx : WX} {e a b c : Expr} {es : List Expr} {T Ta Tb Tc : DTE} {pos : Pos}
theorem DE.r (h : DE X wx e T) : DR X wx e T := by
  obtain ⟨t, p, r⟩ := h
  exact ⟨t, p, fun W0 W m σ ρ M Q Qd Ed R k h1 h2 h3 => r W0 W m σ ρ M Q Qd Ed R k h1 (fun d v W' m' M' q le k' hv => h2 d v W' m' M' q le k' hv.rd) h3⟩
/-- a new list, frozen -/
def dLstOf (T : DTA) : DTE := fun ρ M Q E => T ρ M (fun ds => Q (.lst ds)) E
theorem le_frz {W W' : Wd} {p : Addr} {o : HO} (le : W.le W') (hn : W.H p = none) (hp : W'.H p = some o) : W.le (W'.frz p o hp) := ⟨fun a o z => by
      show upd W'.F p _ a = some o
      rw [upd_ne (fun y => by subst y; rw [W.fnone hn] at z; cases z)]; exact le.f a o z, le.h, fun a z1 z2 => by
      show upd W'.F p _ a = none
      rw [upd_ne (fun y => by subst y; exact z1 hn)]; exact le.n a z1 z2⟩
theorem DN.fz {T : DTA} (h : DN X wx e T) : DE X wx e (dLstOf T) := by
  obtain ⟨t, p, r⟩ := h
  refine ⟨t, p, fun W0 W m σ ρ M Q Qd Ed R k h1 h2 h3 => r W0 W m σ ρ M Q _ Ed R k h1 (fun ds p vs W' m' M' q le k' hn hp hf hv => ?_) h3⟩
  exact h2 (.lst ds) (.ref p) (W'.frz p _ hp) m' M' q (le_frz le hn hp) (k'.frz hp hf) (.lst (SqL.of (upd_same (H := W'.F))) (hv.mono (upd_ex hf)))
/-- a new list, put into the store: what is told is where it stands -/
def dLstM (T : DTA) : DTE := fun ρ M Q E => T ρ M (fun ds M' => ∀ a, M' a = none → Q (.ref a) (updM M' a (.lst ds))) E

/-! ### names, constants -/
def dVar (i : Nat) : DTE := fun ρ M Q _ => match ga ρ i with | .dat d => Q d M | _ => False
def dVarR (i : Nat) : DTE := fun ρ M Q _ => match ga ρ i with
  | .dat d => Q d M
  | .own ds => Q (.lst ds) M
  | .bor d => Q d M
  | .dk t ks => Q (.dic t ks) M
  | .un => False
def dC (d : D) : DTE := fun _ M Q _ => Q d M
theorem de_var (i : Nat) {x : Str} (hN : X.N[i]? = some x := by rfl) (hv : Vis X.env.scope x := by first | exact Or.inl rfl | exact Or.inr (Or.inl rfl) | exact Or.inr (Or.inr rfl)) (hd : (x == ("__debug__" : Str)) = false := by decide)
    (hcd : (x == ("__classdict__" : Str)) = false := by decide) : DE X wx (.Name x pos) (dVar i) := by
  refine ⟨_, pe_var hN hv hd hcd, fun W0 W m σ ρ M Q Qd Ed R k h1 h2 h3 => ?_⟩
  unfold dVar at h1
  cases z : ga ρ i with
  | dat d =>
    rw [z] at h1
    obtain ⟨v, e, r⟩ := R.dat z
    exact ⟨v, e, h2 d v W m M h1 (Wd.le.refl W) k r⟩
  | _ => rw [z] at h1; exact h1.elim
theorem dr_var (i : Nat) {x : Str} (hN : X.N[i]? = some x := by rfl) (hv : Vis X.env.scope x := by first | exact Or.inl rfl | exact Or.inr (Or.inl rfl) | exact Or.inr (Or.inr rfl)) (hd : (x == ("__debug__" : Str)) = false := by decide)
    (hcd : (x == ("__classdict__" : Str)) = false := by decide) : DR X wx (.Name x pos) (dVarR i) := by
  refine ⟨_, pe_var hN hv hd hcd, fun W0 W m σ ρ M Q Qd Ed R k h1 h2 h3 => ?_⟩
  unfold dVarR at h1
  obtain ⟨le, _, ad, _, h4⟩ := id R
  have q := h4 i
  cases z : ga ρ i with
  | un => rw [z] at h1; exact h1.elim
  | dat d =>
    rw [z] at h1 q
    obtain ⟨v, e, r⟩ := q
    exact ⟨v, e, h2 d v W m M h1 (Wd.le.refl W) k r.rd⟩
  | own ds =>
    rw [z] at h1 q
    obtain ⟨vs, q1, q2, q3, q4, q5⟩ := q
    exact ⟨_, q1, h2 (.lst ds) _ W m M h1 (Wd.le.refl W) k ⟨_, _, rfl, SqL.of q2, q5⟩⟩
  | bor d =>
    rw [z] at h1 q
    obtain ⟨v, q1, q2⟩ := q
    exact ⟨_, q1, h2 d _ W m M h1 (Wd.le.refl W) k (q2.elim (fun y => y.mono (Ex.refl _) W.ok le.h) fun y => y.rd)⟩
  | dk t ks =>
    rw [z] at h1 q
    obtain ⟨q1, q2, q3, q4⟩ := q
    exact ⟨_, q1, h2 (.dic t ks) _ W m M h1 (Wd.le.refl W) k ⟨_, rfl, q2⟩⟩
theorem rf_c {B : Bx} {v : V} {d : D} (h : ∀ F, Rp B F v d) : RfE B wx (tC v) (dC d) := fun W0 W m σ ρ M Q Qd Ed R k h1 h2 h3 => h2 d v W m M h1 (Wd.le.refl W) k (h _)
theorem de_int {i : Int} {j : Nat} : DE X wx (.Constant (.int i) j pos) (dC (.int i)) := ⟨_, pe_int, rf_c fun _ => .int i⟩
theorem de_bl {b : Bool} {j : Nat} : DE X wx (.Constant (.bool b) j pos) (dC (.bl b)) := ⟨_, pe_bl, rf_c fun _ => .bl b⟩
theorem de_non {j : Nat} : DE X wx (.Constant .none j pos) (dC .non) := ⟨_, pe_non, rf_c fun _ => .non⟩
theorem de_str {x : Str} {j : Nat} : DE X wx (.Constant (.str x) j pos) (dC (.str x)) := ⟨_, pe_str, rf_c fun _ => .str x⟩
/-- a module's constant: a text | an int | a class -/
theorem de_gstr {x z : Str} {t : Tok} (hm : X.mg x = some (.str z t)) (hg : Gl X x := by rfl) (hd : (x == ("__debug__" : Str)) = false := by decide) : DE X wx (.Name x pos) (dC (.str z)) := ⟨_, pe_glob (v := .str z) hg hm ⟨t, rfl⟩ hd, rf_c fun _ => .str z⟩
theorem de_gint {x : Str} {z : Int} {t : Tok} (hm : X.mg x = some (.int z t)) (hg : Gl X x := by rfl) (hd : (x == ("__debug__" : Str)) = false := by decide) : DE X wx (.Name x pos) (dC (.int z)) := ⟨_, pe_glob (v := .int z) hg hm ⟨t, rfl⟩ hd, rf_c fun _ => .int z⟩
theorem cl_of {B : Bx} {x : Str} {a : Addr} (h : B.mg x = some (.ref a)) : B.cl x = a := by unfold Bx.cl; rw [h]
theorem de_gty {x : Str} {n : String} (hm : X.mg x = none) (hv : bootBuiltins x = some (.type n) := by decide +kernel) (hg : Gl X x := by rfl) (hn : x ≠ "__name__" := by decide) (hd : (x == ("__debug__" : Str)) = false := by decide) : DE X wx (.Name x pos) (dC (.ty n)) := ⟨_, pe_bltn (v := .ty n) hg hm hv rfl hn hd, rf_c fun _ => .ty n⟩

/-! ### arguments, displays -/
def dNil : DTA := fun _ M Q _ => Q [] M
def dCons (T : DTE) (R : DTA) : DTA := fun ρ M Q E => T ρ M (fun d M1 => R ρ M1 (fun ds => Q (d :: ds)) E) E
theorem dm_nil : DM X wx [] [] dNil := ⟨_, pa_nil, fun W0 W m σ ρ M Q Qd Ed R k h1 h2 h3 => h2 [] [] W m M h1 (Wd.le.refl W) k .nil⟩
theorem dm_e {ms : List Bool} {R : DTA} (he : DE X wx e T) (hr : DM X wx ms es R) (hs : starEach (e :: es) X.env = (false, eval e X.env) :: starEach es X.env := by rfl) : DM X wx (false :: ms) (e :: es) (dCons T R) := by
  obtain ⟨t, p, r⟩ := he
  obtain ⟨u, p2, r2⟩ := hr
  refine ⟨_, pa_cons p p2 hs, fun W0 W m σ ρ M Q Qd Ed Re k h1 h2 h3 => ?_⟩
  refine r W0 W m σ ρ M _ _ Ed Re k h1 (fun d v W' m' M' q le k' hv => ?_) h3
  refine r2 W0 W' m' σ ρ M' _ _ Ed (Re.mono le) k' q (fun ds vs W'' m'' M'' q2 le2 k'' hvs => ?_) (h3.up le)
  exact h2 (d :: ds) (v :: vs) W'' m'' M'' q2 (le.trans le2) k'' (.dat (hv.mono le2.f) hvs)
theorem dm_r {ms : List Bool} {R : DTA} (he : DR X wx e T) (hr : DM X wx ms es R) (hs : starEach (e :: es) X.env = (false, eval e X.env) :: starEach es X.env := by rfl) : DM X wx (true :: ms) (e :: es) (dCons T R) := by
  obtain ⟨t, p, r⟩ := he
  obtain ⟨u, p2, r2⟩ := hr
  refine ⟨_, pa_cons p p2 hs, fun W0 W m σ ρ M Q Qd Ed Re k h1 h2 h3 => ?_⟩
  refine r W0 W m σ ρ M _ _ Ed Re k h1 (fun d v W' m' M' q le k' hv => ?_) h3
  refine r2 W0 W' m' σ ρ M' _ _ Ed (Re.mono le) k' q (fun ds vs W'' m'' M'' q2 le2 k'' hvs => ?_) (h3.up le)
  exact h2 (d :: ds) (v :: vs) W'' m'' M'' q2 (le.trans le2) k'' (.bor (hv.le le2) hvs)
def dTup (R : DTA) : DTE := fun ρ M Q E => R ρ M (fun ds M' => ds.length ≤ sizeLine ∧ Q (.tup ds) M') E
theorem de_tup {ms : List Bool} {R : DTA} {x1} (h : DM X wx ms es R) (hm : ms.any id = false := by rfl) : DE X wx (.Tuple es x1 pos) (dTup R) := by
  obtain ⟨t, p, r⟩ := h
  refine ⟨_, pe_tup p, fun W0 W m σ ρ M Q Qd Ed Re k h1 h2 h3 => ?_⟩
  refine r W0 W m σ ρ M _ _ Ed Re k h1 (fun ds vs W' m' M' q le k' hv => ⟨by rw [hv.length]; exact q.1, fun pp hp => ?_⟩) h3
  have hp1 := (cat_new hp).1
  exact cat_q (P := Q (.ref pp)) (h2 (.tup ds) (.ref pp) (W'.new pp (.tup vs)) m' M' q.2 (le.trans (W'.le_new hp1)) (k'.new hp) (.tup (SqT.of (upd_same (H := W'.F))) ((hv.all hm).mono (W'.le_new hp1).f)))
def dLst (R : DTA) : DTA := fun ρ M Q E => R ρ M (fun ds M' => ds.length ≤ sizeLine ∧ Q ds M') E
theorem dn_lst {ms : List Bool} {R : DTA} (h : DM X wx ms es R) (hm : ms.any id = false := by rfl) : DN X wx (.List es pos) (dLst R) := by
  obtain ⟨t, p, r⟩ := h
  refine ⟨_, pe_lst p, fun W0 W m σ ρ M Q Qd Ed Re k h1 h2 h3 => ?_⟩
  refine r W0 W m σ ρ M _ _ Ed Re k h1 (fun ds vs W' m' M' q le k' hv => ⟨by rw [hv.length]; exact q.1, fun pp hp => ?_⟩) h3
  have hp1 := (cat_new hp).1
  exact cat_q (P := Q (.ref pp)) (h2 ds pp vs (W'.lay pp (.lst vs) (W'.fnone hp1)) m' M' q.2 (le.trans (W'.le_lay hp1)) (k'.lay hp) (ex_none le.h hp1) upd_same (W'.fnone hp1) (hv.all hm))

/-! ### operators by values -/
def dOp (o : OpD) (a b : DTE) : DTE := fun ρ M Q E => a ρ M (fun x M1 => b ρ M1 (fun y M2 => o (drf M2 x) (drf M2 y) (fun d => Q d M2)) E) E
def RfO (B : Bx) (r : R2) (o : OpD) : Prop := ∀ (W : Wd) (m : Hp) (M : Mu) (x y : V) (dx dy : D) (Q : VK) (Qd : D → Prop), MOk B W M m → RpR B W.F (cat W.H m) x dx → RpR B W.F (cat W.H m) y dy → o dx dy Qd →
  (∀ d v W', Qd d → W.le W' → MOk B W' M m → Rp B W'.F v d → Q v (cat W'.H m)) → r x y (cat W.H m) Q
theorem rf_op {B : Bx} {ta tb : TE} {r : R2} {o : OpD} (ha : RfR B wx ta Ta) (hb : RfR B wx tb Tb) (hr : RfO B r o) : RfE B wx (tOp r ta tb) (dOp o Ta Tb) := fun W0 W m σ ρ M Q Qd Ed R k h1 h2 h3 => by
  refine ha W0 W m σ ρ M _ _ Ed R k h1 (fun d v W' m' M' q le k' hv => ?_) h3
  refine hb W0 W' m' σ ρ M' _ _ Ed (R.mono le) k' q (fun d2 v2 W'' m'' M'' q2 le2 k'' hv2 => ?_) (h3.up le)
  exact hr W'' m'' M'' v v2 _ _ Q _ k'' ((hv.le le2).drf k'') (hv2.drf k'') q2 fun d3 v3 W3 q3 le3 k3 hv3 => h2 d3 v3 W3 m'' M'' q3 ((le.trans le2).trans le3) k3 hv3
theorem de_op {op : Operator} {r : R2} {o : OpD} (ho : OpR X (binaryOp op) r) (hr : RfO (bx X) r o) (ha : DR X wx a Ta) (hb : DR X wx b Tb) : DE X wx (.BinOp a op b pos) (dOp o Ta Tb) := by
  obtain ⟨ta, pa, ra⟩ := ha
  obtain ⟨tb, pb, rb⟩ := hb
  exact ⟨_, pe_op ho pa pb, rf_op ra rb hr⟩

/-! ### + of lists: a new one -/
def rCatS (K : PySem.W.Frag) : R2 := fun x y H Q => ∃ l b xs zs, x = .ref l ∧ y = .ref b ∧ SqL K H l xs ∧ SqL K H b zs ∧ xs.length + zs.length ≤ sizeLine ∧ ∀ p, H p = none → Q (.ref p) (upd H p (.lst (xs ++ zs)))
theorem op_catS : OpR X (binaryOp .Add) (rCatS X.K) := by
  intro pins s σ H x y v u Q I rx ry h
  obtain ⟨l, b, xs, zs, rfl, rfl, hH, hB, hz, q⟩ := h
  cases rx
  cases ry
  obtain ⟨its, r, pl, z⟩ := I.list hH
  obtain ⟨its2, r2, pl2, z2⟩ := I.list hB
  have hl := r.length
  have hl2 := r2.length
  obtain ⟨⟨cls, dd, data, sl⟩, ho, hc, n, hd⟩ := id pl.isList
  obtain ⟨⟨cls2, dd2, data2, sl2⟩, ho2, hc2, n2, hd2⟩ := id pl2.isList
  simp only at hc hd hc2 hd2
  subst hc hd hc2 hd2
  refine concat_meets ⟨_, ho, rfl⟩ ⟨_, ho2, rfl⟩ noFill_list_add seq_list_add PySem.F.slot_list_add PySem.F.entry_list_add (PySem.F.args_list_add_2 _ _) (list_addW l b its.toArray its2.toArray n n2 dd dd2 sl sl2 (by simp; omega)) ⟨ho, ho2, ?_⟩
  have ea : its.toArray ++ its2.toArray = (its ++ its2).toArray := by simp
  rw [ea]
  exact ⟨.ref _, _, I.lnew (t' := s.toks) (r.append r2) (by rw [List.length_append]; omega), rfl, q _ I.fresh⟩
/-- + -/
def oAdd (x y : D) (Q : D → Prop) : Prop := match x, y with
  | .int i, .int j => Q (.int (i + j))
  | .str x, .str y => x.length + y.length ≤ sizeLine ∧ Q (.str (x ++ y))
  | .tup x, .tup y => x.length + y.length ≤ sizeLine ∧ Q (.tup (x ++ y))
  | .lst x, .lst y => x.length + y.length ≤ sizeLine ∧ Q (.lst (x ++ y))
  | _, _ => False
theorem rAll_nil {B : Bx} {F : Hp} {xs : List V} {ds : List D} (h : RpAll B F xs ds) : xs = [] ↔ ds = [] := by
  cases h <;> simp
theorem newT {B : Bx} {W : Wd} {M : Mu} {m : Hp} {p : Addr} {vs : List V} {ds : List D} {Q : VK} (k : MOk B W M m) (hp : cat W.H m p = none) (hv : RpAll B W.F vs ds)
    (h : ∀ W', W.le W' → MOk B W' M m → Rp B W'.F (.ref p) (.tup ds) → Q (.ref p) (cat W'.H m)) : Q (.ref p) (upd (cat W.H m) p (.tup vs)) :=
  cat_q (P := Q (.ref p)) (h (W.new p _) (W.le_new (cat_new hp).1) (k.new hp) (.tup (SqT.of (upd_same (H := W.F))) (hv.mono (W.le_new (cat_new hp).1).f)))
theorem newL {B : Bx} {W : Wd} {M : Mu} {m : Hp} {p : Addr} {vs : List V} {ds : List D} {Q : VK} (k : MOk B W M m) (hp : cat W.H m p = none) (hv : RpAll B W.F vs ds)
    (h : ∀ W', W.le W' → MOk B W' M m → Rp B W'.F (.ref p) (.lst ds) → Q (.ref p) (cat W'.H m)) : Q (.ref p) (upd (cat W.H m) p (.lst vs)) :=
  cat_q (P := Q (.ref p)) (h (W.new p _) (W.le_new (cat_new hp).1) (k.new hp) (.lst (SqL.of (upd_same (H := W.F))) (hv.mono (W.le_new (cat_new hp).1).f)))
theorem newO {B : Bx} {W W1 : Wd} {M : Mu} {m : Hp} {p : Addr} {vs : List V} {ds : List D} {Q : VK} (le : W1.le W) (k : MOk B W M m) (hp : cat W.H m p = none) (hv : RpAll B W.F vs ds)
    (h : ∀ W', W1.le W' → MOk B W' M m → W1.H p = none → W'.H p = some (.lst vs) → W'.F p = none → RpAll B W'.F vs ds → Q (.ref p) (cat W'.H m)) : Q (.ref p) (upd (cat W.H m) p (.lst vs)) :=
  have hp1 := (cat_new hp).1
  cat_q (P := Q (.ref p)) (h (W.lay p _ (W.fnone hp1)) (le.trans (W.le_lay hp1)) (k.lay hp) (ex_none le.h hp1) upd_same (W.fnone hp1) hv)
theorem rf_add {B : Bx} : RfO B (fun x y H Q => rI0 (fun i j => .int (i + j)) x y H Q ∨ (∃ i j, x = .str i ∧ y = .str j ∧ i.length + j.length ≤ sizeLine ∧ Q (.str (i ++ j)) H) ∨ rCatA B.K x y H Q ∨ rCatS B.K x y H Q) oAdd := by
  intro W m M x y dx dy Q Qd mk rx ry h k
  have ok := W.ok.trans (cat_ex W.H m)
  cases dx with
  | int i =>
    cases dy with
    | int j => cases rx; cases ry; exact .inl ⟨i, j, rfl, rfl, k _ _ W h (Wd.le.refl W) mk (.int _)⟩
    | _ => exact h.elim
  | str i =>
    cases dy with
    | str j => cases rx; cases ry; exact .inr (.inl ⟨i, j, rfl, rfl, h.1, k _ _ W h.2 (Wd.le.refl W) mk (.str _)⟩)
    | _ => exact h.elim
  | tup xs =>
    cases dy with
    | tup ys =>
      cases rx with
      | tup hx ax =>
        rename_i a vs
        cases ry with
        | tup hy ay =>
          rename_i b us
          refine .inr (.inr (.inl ⟨a, b, vs, us, rfl, rfl, Evl.ex_t ok hx, Evl.ex_t ok hy, by rw [ax.length, ay.length]; exact h.1, fun z => ?_, fun z1 z2 => ?_, fun z1 z2 p hp => ?_⟩))
          · have e := (rAll_nil ax).mp z
            subst e
            exact k _ _ W h.2 (Wd.le.refl W) mk (.tup hy ay)
          · have e := (rAll_nil ay).mp z2
            subst e
            have q := h.2
            rw [List.append_nil] at q
            exact k _ _ W q (Wd.le.refl W) mk (.tup hx ax)
          · exact newT mk hp (ax.append ay) fun W' le mk' r => k _ _ W' h.2 le mk' r
    | _ => exact h.elim
  | lst xs =>
    cases dy with
    | lst ys =>
      obtain ⟨a1, vs1, rfl, s1, r1⟩ := rx
      obtain ⟨a2, vs2, rfl, s2, r2⟩ := ry
      exact .inr (.inr (.inr ⟨a1, a2, vs1, vs2, rfl, rfl, s1, s2, by rw [r1.length, r2.length]; exact h.1, fun p hp => newL mk hp (r1.append r2) fun W' le mk' r => k _ _ W' h.2 le mk' r⟩))
    | _ => exact h.elim
  | _ => exact h.elim
theorem de_add (ha : DR X wx a Ta) (hb : DR X wx b Tb) : DE X wx (.BinOp a .Add b pos) (dOp oAdd Ta Tb) := de_op (op_add.or (op_add_str.or (op_catA.or op_catS))) rf_add ha hb

/-- - -/
def oSub (x y : D) (Q : D → Prop) : Prop := match x, y with
  | .int i, .int j => Q (.int (i - j))
  | _, _ => False
theorem rf_int0 {B : Bx} {g : Int → Int → V} {gd : Int → Int → D} {o : OpD} (hg : ∀ i j F, Rp B F (g i j) (gd i j)) (ho : ∀ x y Q, o x y Q → ∃ i j, x = .int i ∧ y = .int j ∧ Q (gd i j)) : RfO B (rI0 g) o := by
  intro W m M x y dx dy Q Qd mk rx ry h k
  obtain ⟨i, j, rfl, rfl, q⟩ := ho _ _ _ h
  cases rx
  cases ry
  exact ⟨i, j, rfl, rfl, k _ _ W q (Wd.le.refl W) mk (hg i j _)⟩
theorem rf_intC {B : Bx} {C : Int → Int → Prop} {g : Int → Int → V} {gd : Int → Int → D} {o : OpD} (hg : ∀ i j F, Rp B F (g i j) (gd i j)) (ho : ∀ x y Q, o x y Q → ∃ i j, x = .int i ∧ y = .int j ∧ C i j ∧ Q (gd i j)) : RfO B (rI C g) o := by
  intro W m M x y dx dy Q Qd mk rx ry h k
  obtain ⟨i, j, rfl, rfl, c, q⟩ := ho _ _ _ h
  cases rx
  cases ry
  exact ⟨i, j, rfl, rfl, c, k _ _ W q (Wd.le.refl W) mk (hg i j _)⟩
theorem de_sub (ha : DR X wx a Ta) (hb : DR X wx b Tb) : DE X wx (.BinOp a .Sub b pos) (dOp oSub Ta Tb) :=
  de_op op_sub (rf_int0 (gd := fun i j => .int (i - j)) (fun _ _ _ => .int _) fun x y Q h => by
    unfold oSub at h
    split at h
    · exact ⟨_, _, rfl, rfl, h⟩
    · exact h.elim) ha hb
/-- numbers within 2 ^ 9000 -/
def Sm (i : Int) : Prop := i.natAbs < 2 ^ 9000
theorem Sm.log {i : Int} (h : Sm i) : i.natAbs.log2 < 9000 := PySem.Flt.log2_lt_of (by decide) h
/-- *: of ints (both within 2 ^ 9000), of a text or a list and an int -/
def oMul (x y : D) (Q : D → Prop) : Prop := match x, y with
  | .int i, .int j => Sm i ∧ Sm j ∧ Q (.int (i * j))
  | _, _ => False
theorem op_fdivA : OpR X (binaryOp .FloorDiv) (rI (fun _ j => j ≠ 0 ∧ Sm j) fun i j => .int (i.fdiv j)) := opI fun i j _ _ _ _ _ hc q => floordiv_int hc.1 q (.inl (PyProof.noPylong_of_log2 hc.2.log))
def oFdiv (x y : D) (Q : D → Prop) : Prop := match x, y with
  | .int i, .int j => j ≠ 0 ∧ Sm j ∧ Q (.int (i.fdiv j))
  | _, _ => False
theorem de_fdiv (ha : DR X wx a Ta) (hb : DR X wx b Tb) : DE X wx (.BinOp a .FloorDiv b pos) (dOp oFdiv Ta Tb) :=
  de_op op_fdivA (rf_intC (gd := fun i j => .int (i.fdiv j)) (fun _ _ _ => .int _) fun x y Q h => by
    unfold oFdiv at h
    split at h
    · exact ⟨_, _, rfl, rfl, ⟨h.1, h.2.1⟩, h.2.2⟩
    · exact h.elim) ha hb
def oMod (x y : D) (Q : D → Prop) : Prop := match x, y with
  | .int i, .int j => j ≠ 0 ∧ Q (.int (i.fmod j))
  | _, _ => False
theorem de_mod (ha : DR X wx a Ta) (hb : DR X wx b Tb) : DE X wx (.BinOp a .Mod b pos) (dOp oMod Ta Tb) :=
  de_op op_modN (rf_intC (gd := fun i j => .int (i.fmod j)) (fun _ _ _ => .int _) fun x y Q h => by
    unfold oMod at h
    split at h
    · exact ⟨_, _, rfl, rfl, h.1, h.2⟩
    · exact h.elim) ha hb
def oPow (x y : D) (Q : D → Prop) : Prop := match x, y with
  | .int i, .int j => CPow i j ∧ Q (.int (i ^ j.toNat))
  | _, _ => False
theorem de_pow (ha : DR X wx a Ta) (hb : DR X wx b Tb) : DE X wx (.BinOp a .Pow b pos) (dOp oPow Ta Tb) :=
  de_op op_pow (rf_intC (gd := fun i j => .int (i ^ j.toNat)) (fun _ _ _ => .int _) fun x y Q h => by
    unfold oPow at h
    split at h
    · exact ⟨_, _, rfl, rfl, h.1, h.2⟩
    · exact h.elim) ha hb
def dNeg (T : DTE) : DTE := fun ρ M Q E => T ρ M (fun x M' => match x with | .int i => Q (.int (-i)) M' | _ => False) E
theorem de_neg (ha : DR X wx a Ta) : DE X wx (.UnaryOp .USub a pos) (dNeg Ta) := by
  obtain ⟨ta, pa, ra⟩ := ha
  refine ⟨_, pe_un un_neg pa, fun W0 W m σ ρ M Q Qd Ed R k h1 h2 h3 => ?_⟩
  refine ra W0 W m σ ρ M _ _ Ed R k h1 (fun d v W' m' M' q le k' hv => ?_) h3
  cases d with
  | int i => cases hv; exact ⟨i, rfl, h2 _ _ W' m' M' q le k' (.int _)⟩
  | _ => exact q.elim

def oCat (x y : D) (Q : List D → Prop) : Prop := match x, y with
  | .lst xs, .lst ys => xs.length + ys.length ≤ sizeLine ∧ Q (xs ++ ys)
  | _, _ => False
def dCat (a b : DTE) : DTA := fun ρ M Q E => a ρ M (fun x M1 => b ρ M1 (fun y M2 => oCat (drf M2 x) (drf M2 y) fun ds => Q ds M2) E) E
theorem oCat_of {x y : D} {Q : List D → Prop} (h : oCat x y Q) : ∃ xs ys, x = .lst xs ∧ y = .lst ys ∧ xs.length + ys.length ≤ sizeLine ∧ Q (xs ++ ys) := by
  unfold oCat at h
  split at h
  · exact ⟨_, _, rfl, rfl, h.1, h.2⟩
  · exact h.elim
theorem dn_cat (ha : DR X wx a Ta) (hb : DR X wx b Tb) : DN X wx (.BinOp a .Add b pos) (dCat Ta Tb) := by
  obtain ⟨ta, pa, ra⟩ := ha
  obtain ⟨tb, pb, rb⟩ := hb
  refine ⟨_, pe_op op_catS pa pb, fun W0 W m σ ρ M Q Qd Ed R k h1 h2 h3 => ?_⟩
  refine ra W0 W m σ ρ M _ _ Ed R k h1 (fun d v W' m' M' q le k' hv => ?_) h3
  refine rb W0 W' m' σ ρ M' _ _ Ed (R.mono le) k' q (fun d2 v2 W'' m'' M'' q2 le2 k'' hv2 => ?_) (h3.up le)
  have hv := (hv.le le2).drf k''
  have hv2 := hv2.drf k''
  obtain ⟨xs, ys, e1, e2, hl, q3⟩ := oCat_of q2
  rw [e1] at hv
  rw [e2] at hv2
  obtain ⟨a1, vs1, rfl, s1, r1⟩ := hv
  obtain ⟨a2, vs2, rfl, s2, r2⟩ := hv2
  refine ⟨a1, a2, vs1, vs2, rfl, rfl, s1, s2, by rw [r1.length, r2.length]; exact hl, fun p hp => ?_⟩
  exact newO (le.trans le2) k'' hp (r1.append r2) fun W3 l3 k3 h4 h5 h6 h7 => h2 _ p _ W3 m'' M'' q3 l3 k3 h4 h5 h6 h7
end
end Z

/-! Dicts of the store: keys ints and texts, or tuples (nested). -/
namespace Z
open PySem PySem.Spec PyProof.Rows L2
open Evl (Ex)
/-! ### over data -/
def getK (ks : List (D × D)) (k : D) : Option D := (ks.find? fun p => decide (nk p.1 = nk k)).map (·.2)
def putG (ks : List (D × D)) (k v : D) : List (D × D) := if (getK ks k).isSome = true then ks.map (fun p => if nk p.1 = nk k then (p.1, v) else p) else ks ++ [(k, v)]
def kOkB (t : Bool) (k : D) : Bool := match t, k with
  | false, .int _ => true
  | false, .str _ => true
  | true, .tup xs => (match nk (.tup xs) with | some n => decide (n.depth ≤ 8) | none => false)
  | _, _ => false
theorem kOk_f {k : D} (h : kOkB false k = true) : ∃ q : Key, k = keyD q := by
  cases k <;> first | (cases h; done) | skip
  · exact ⟨.inl _, rfl⟩
  · exact ⟨.inr _, rfl⟩
theorem kOk_t {k : D} (h : kOkB true k = true) : ∃ xs n, k = .tup xs ∧ nk k = some n ∧ n.depth ≤ 8 := by
  cases k <;> first | (cases h; done) | skip
  rename_i xs
  have h : (match nk (.tup xs) with | some n => decide (n.depth ≤ 8) | none => false) = true := h
  cases z : nk (.tup xs) with
  | none => rw [z] at h; cases h
  | some n => rw [z] at h; exact ⟨xs, n, rfl, rfl, of_decide_eq_true h⟩
theorem nk_key : ∀ k : Key, nk (keyD k) = some (match k with | .inl i => .num i | .inr x => .text x)
  | .inl _ => by simp [keyD, nk]
  | .inr _ => by simp [keyD, nk]
theorem nk_key_inj {a b : Key} : nk (keyD a) = nk (keyD b) ↔ a = b := by
  rw [nk_key, nk_key]
  cases a <;> cases b <;> simp
theorem getK_nil (k : D) : getK [] k = none := rfl
theorem getK_pos {p : D × D} {r : List (D × D)} {k : D} (e : nk p.1 = nk k) : getK (p :: r) k = some p.2 := by simp [getK, List.find?_cons, e]
theorem getK_neg {p : D × D} {r : List (D × D)} {k : D} (e : ¬ nk p.1 = nk k) : getK (p :: r) k = getK r k := by simp [getK, List.find?_cons, e]
section
variable {B : Bx} {F H : Hp}
theorem rp_key {v : V} {k : Key} (h : Rp B F v (keyD k)) : v = kV k := by
  cases k with
  | inl i => cases h; rfl
  | inr x => cases h; rfl
theorem RpK.get : ∀ {kv : List (Key × V)} {ks : List (D × D)}, RpK B F kv ks → ∀ k : Key, (valV kv k = none ∧ getK ks (keyD k) = none) ∨ ∃ v d, valV kv k = some v ∧ getK ks (keyD k) = some d ∧ Rp B F v d
  | _, _, .nil, _ => .inl ⟨rfl, rfl⟩
  | _, _, .cons (k := k0) h t, k => by
    by_cases e : k0 = k
    · exact .inr ⟨_, _, valV_pos (p := (k0, _)) e, getK_pos (p := (keyD k0, _)) (by rw [e]), h⟩
    · rw [valV_neg (p := (k0, _)) e, getK_neg (p := (keyD k0, _)) (fun z => e (nk_key_inj.mp z))]
      exact RpK.get t k
theorem RpK.len : ∀ {kv : List (Key × V)} {ks : List (D × D)}, RpK B F kv ks → kv.length = ks.length
  | _, _, .nil => rfl
  | _, _, .cons _ t => congrArg (· + 1) t.len
theorem RpK.repl {v : V} {d : D} (r : Rp B F v d) (k : Key) : ∀ {kv : List (Key × V)} {ks : List (D × D)}, RpK B F kv ks → RpK B F (kv.map fun p => if p.1 = k then (p.1, v) else p) (ks.map fun p => if nk p.1 = nk (keyD k) then (p.1, d) else p)
  | _, _, .nil => .nil
  | _, _, .cons (k := k0) h t => by
    rw [List.map_cons, List.map_cons]
    by_cases e : k0 = k
    · rw [if_pos e, if_pos (by rw [e])]
      exact .cons r (RpK.repl r k t)
    · rw [if_neg e, if_neg (fun z => e (nk_key_inj.mp z))]
      exact .cons h (RpK.repl r k t)
theorem RpK.snoc {v : V} {d : D} (r : Rp B F v d) (k : Key) : ∀ {kv : List (Key × V)} {ks : List (D × D)}, RpK B F kv ks → RpK B F (kv ++ [(k, v)]) (ks ++ [(keyD k, d)])
  | _, _, .nil => .cons r .nil
  | _, _, .cons h t => .cons h (RpK.snoc r k t)
theorem RpK.put {v : V} {d : D} (r : Rp B F v d) (k : Key) {kv : List (Key × V)} {ks : List (D × D)} (h : RpK B F kv ks) : RpK B F (putK kv k v) (putG ks (keyD k) d) := by
  unfold putK putG
  rw [valV_any]
  rcases h.get k with ⟨e1, e2⟩ | ⟨v0, d0, e1, e2, _⟩
  · rw [e1, e2]; exact RpK.snoc r k h
  · rw [e1, e2]; exact RpK.repl r k h
theorem RpX.get : ∀ {xs : List (NestedKey × Addr × Value)} {ks : List (D × D)}, RpX B F xs ks → ∀ {k : D} {n : NestedKey}, nk k = some n → (atKey xs n = none ∧ getK ks k = none) ∨ ∃ b u v d, atKey xs n = some (b, u) ∧ RelV v u ∧ Rp B F v d ∧ getK ks k = some d
  | _, _, .nil, _, _, _ => .inl ⟨rfl, rfl⟩
  | _, _, .cons (k := k0) (a := a) (u := u) (v := v) (c := c) (d := d) hc hn h8 hr h t, k, n, e => by
    by_cases z : k0 = n
    · refine .inr ⟨a, u, v, d, ?_, hr, h, getK_pos (p := (c, d)) (by rw [e, hn, z])⟩
      simp [atKey, List.find?_cons, z]
    · have z2 : ¬ nk c = nk k := fun y => by rw [hn, e] at y; cases y; exact z rfl
      rw [getK_neg (p := (c, d)) z2]
      have : ∀ r, atKey ((k0, a, u) :: r) n = atKey r n := fun r => by simp [atKey, List.find?_cons, z]
      rw [this]
      exact RpX.get t e
theorem RpX.len : ∀ {xs : List (NestedKey × Addr × Value)} {ks : List (D × D)}, RpX B F xs ks → xs.length = ks.length
  | _, _, .nil => rfl
  | _, _, .cons _ _ _ _ _ t => congrArg (· + 1) t.len
theorem RpX.repl {v : V} {u : Value} {d k : D} {n : NestedKey} (r : Rp B F v d) (rv : RelV v u) (e : nk k = some n) : ∀ {xs : List (NestedKey × Addr × Value)} {ks : List (D × D)}, RpX B F xs ks → RpX B F (xs.map (putAt n u)) (ks.map fun p => if nk p.1 = nk k then (p.1, d) else p)
  | _, _, .nil => .nil
  | _, _, .cons (k := k0) (c := c) hc hn h8 hr h t => by
    rw [List.map_cons, List.map_cons]
    unfold putAt
    by_cases z : k0 = n
    · rw [if_pos z, if_pos (by rw [hn, e, z])]
      exact .cons hc hn h8 rv r (RpX.repl r rv e t)
    · rw [if_neg z, if_neg (fun y => by rw [hn, e] at y; cases y; exact z rfl)]
      exact .cons hc hn h8 hr h (RpX.repl r rv e t)
theorem RpX.snoc {v : V} {u : Value} {b : Addr} {d k : D} {n : NestedKey} (r : Rp B F v d) (rv : RelV v u) (hb : Rp B F (.ref b) k) (e : nk k = some n) (h8 : n.depth ≤ 8) : ∀ {xs : List (NestedKey × Addr × Value)} {ks : List (D × D)}, RpX B F xs ks → RpX B F (xs ++ [(n, b, u)]) (ks ++ [(k, d)])
  | _, _, .nil => .cons hb e h8 rv r .nil
  | _, _, .cons hc hn h8' hr h t => .cons hc hn h8' hr h (RpX.snoc r rv hb e h8 t)
theorem RpK.at : ∀ {kv : List (Key × V)} {ks : List (D × D)} {i : Nat} {p : D × D}, RpK B F kv ks → ks[i]? = some p → ∃ k v, kv[i]? = some (k, v) ∧ p.1 = keyD k
  | _, _, _, _, .nil, e => by simp at e
  | _, _, 0, _, .cons (k := k0) (v := v) h t, e => by simp at e; subst e; exact ⟨k0, v, rfl, rfl⟩
  | _, _, i + 1, p, .cons h t, e => by
    obtain ⟨k, v, h1, h2⟩ := RpK.at (i := i) (p := p) t (by simpa using e)
    exact ⟨k, v, by simpa using h1, h2⟩
theorem RpX.at : ∀ {xs : List (NestedKey × Addr × Value)} {ks : List (D × D)} {i : Nat} {p : D × D}, RpX B F xs ks → ks[i]? = some p → ∃ x, xs[i]? = some x ∧ Rp B F (.ref x.2.1) p.1
  | _, _, _, _, .nil, e => by simp at e
  | _, _, 0, _, .cons hc hn h8 hr h t, e => by simp at e; subst e; exact ⟨_, rfl, hc⟩
  | _, _, i + 1, p, .cons hc hn h8 hr h t, e => by
    obtain ⟨x, h1, h2⟩ := RpX.at (i := i) (p := p) t (by simpa using e)
    exact ⟨x, by simpa using h1, h2⟩
theorem RpX.put {v : V} {u : Value} {b : Addr} {d k : D} {n : NestedKey} (r : Rp B F v d) (rv : RelV v u) (hb : Rp B F (.ref b) k) (e : nk k = some n) (h8 : n.depth ≤ 8) {xs : List (NestedKey × Addr × Value)} {ks : List (D × D)} (h : RpX B F xs ks) : RpX B F (storedH xs n b u) (putG ks k d) := by
  unfold putG
  rcases h.get e with ⟨e1, e2⟩ | ⟨b0, u0, v0, d0, e1, _, _, e2⟩
  · rw [storedH_new e1, e2]; exact RpX.snoc r rv hb e h8 h
  · rw [storedH_old e1, e2]; exact RpX.repl r rv e h
end
/-! ### over the heap -/
section
variable {X : Cx} {F H : Hp} {pins : List (Addr × Obj)} {σ : L2.St} {s : Shared}
mutual
theorem Rp.nst (I : Inv X pins σ H s) (ex : Ex F H) : ∀ {v : V} {d : D}, Rp (bx X) F v d → ∀ {k : NestedKey} {u : Value}, nk d = some k → RelV v u → NestedIs s.heap k u
  | _, _, .non, _, _, e, r => by simp only [nk] at e; cases e; cases r; exact .none
  | _, _, .bl b, _, _, e, r => by simp only [nk] at e; cases e; cases r; exact .bool (by cases b <;> rfl)
  | _, _, .int i, _, _, e, r => by simp only [nk] at e; cases e; obtain ⟨t, rfl⟩ := r; exact .int _ _
  | _, _, .str x, _, _, e, r => by simp only [nk] at e; cases e; obtain ⟨t, rfl⟩ := r; exact .text _ _
  | _, _, .tup (ds := ds) h a, k, u, e, r => by
    simp only [nk] at e
    obtain ⟨ks, e1, rfl⟩ := Option.map_eq_some_iff.mp e
    cases r
    obtain ⟨its, rv, ⟨o, ho, hc, n, hd⟩, _⟩ := I.tuple (Evl.ex_t ex h)
    exact .tup ho hc hd (RpAll.nst I ex a e1 rv)
  | _, _, .ty n, _, _, e, _ => by simp [nk] at e
  | _, _, .cls n, _, _, e, _ => by simp [nk] at e
  | _, _, .ref n, _, _, e, _ => by simp [nk] at e
  | _, _, .lst _ _, _, _, e, _ => by simp [nk] at e
  | _, _, .obj _ _, _, _, e, _ => by simp [nk] at e
  | _, _, .exc _, _, _, e, _ => by simp [nk] at e
  | _, _, .dic _ _, _, _, e, _ => by simp [nk] at e
  | _, _, .dit _ _, _, _, e, _ => by simp [nk] at e
theorem RpAll.nst (I : Inv X pins σ H s) (ex : Ex F H) : ∀ {vs : List V} {ds : List D}, RpAll (bx X) F vs ds → ∀ {ks : List NestedKey} {us : List Value}, nks ds = some ks → Vals vs us → NestedAll s.heap ks us
  | _, _, .nil, _, _, e, r => by simp only [nks] at e; cases e; cases r; exact .nil
  | _, _, .cons (d := d) (ds := ds) h t, ks, us, e, r => by
    simp only [nks] at e
    cases z1 : nk d with
    | none => rw [z1] at e; cases e
    | some k0 =>
      cases z2 : nks ds with
      | none => rw [z1, z2] at e; cases e
      | some ks0 =>
        rw [z1, z2] at e
        cases e
        cases r with
        | cons r1 r2 => exact .cons (Rp.nst I ex h z1 r1) (RpAll.nst I ex t z2 r2)
end
theorem dk_at {a : Addr} {o : Obj} {kv : List (Key × V)} (I : Inv X pins σ H s) (h : H a = some (.ext (DkAt (bx X) a o kv))) : DkAt (bx X) a o kv s.heap := (I.hok a _ h).1
theorem RpX.keys (I : Inv X pins σ H s) (ex : Ex F H) : ∀ {xs : List (NestedKey × Addr × Value)} {ks : List (D × D)}, RpX (bx X) F xs ks → ∀ x ∈ xs, (nestedKind X.prog X.w).is s.heap x.1 x.2.1
  | _, _, .nil, _, h => by simp at h
  | _, _, .cons hc hn h8 hr h t, x, hx => by
    rcases List.mem_cons.mp hx with rfl | hx
    · exact ⟨Rp.nst I ex hc hn rfl, h8⟩
    · exact RpX.keys I ex t x hx
theorem raw_at {a : Addr} {o : Obj} {xs : List (NestedKey × Addr × Value)} {ks : List (D × D)} (I : Inv X pins σ H s) (ex : Ex F H) (h : H a = some (.ext (RawD (bx X) a o xs))) (r : RpX (bx X) F xs ks) :
    s.heap.DictOfH (nestedKind X.prog X.w) a xs ∧ (a == sysModules) = false ∧ xs.length ≤ sizeLine ∧ s.heap.get? a = some o := by
  obtain ⟨h1, h2, h3, h4, h5, es, ep, h6, h7⟩ := (I.hok a _ h).1
  exact ⟨⟨o, es, ep, h1, h4, h6, h7, RpX.keys I ex r, h5⟩, h3, h2, h1⟩
theorem roomN {A : Around} {k : Nat} (hr : Room k A) : (nestedKind X.prog X.w).room A.in1 := by
  have := hr.units
  show A.in1.units + 8 < cLine
  have e : A.in1.units = A.units + 1 := rfl
  omega
/-- what a dict's object is true of, kept -/
theorem dk_ok {P : Program} {w : World} {H' : Hp} {h' : Heap} {B : Bx} {a : Addr} {o : Obj} {kv : List (Key × V)} {vs : List (Key × Value)} (ho : h'.get? a = some o) (z : kv.length ≤ sizeLine) (hd : (a == sysModules) = false) (rel : KV kv vs) (dd : h'.DictOf (mixKind B.P B.w) a vs) : ObjOk P w H' h' a (.ext (DkAt B a o kv)) :=
  ⟨⟨ho, z, hd, vs, rel, dd⟩, ⟨o, ho⟩, fun h1 h2 ⟨e1, e2, e3, vs1, e4, e5⟩ k => ⟨k _ e1, e2, e3, vs1, e4, by
    obtain ⟨q, es, ep, hq, r⟩ := e5
    exact ⟨q, es, ep, k _ hq, r⟩⟩⟩
theorem raw_ok {P : Program} {w : World} {H' : Hp} {h' : Heap} {B : Bx} {a : Addr} {o : Obj} {xs : List (NestedKey × Addr × Value)} (z : xs.length ≤ sizeLine) (hd : (a == sysModules) = false) (ho : h'.get? a = some o) (dd : h'.DictOfH (nestedKind B.P B.w) a xs) : ObjOk P w H' h' a (.ext (RawD B a o xs)) := by
  obtain ⟨o', es, ep, h1, h2, h3, h4, _, h5⟩ := dd
  rw [ho] at h1
  cases h1
  exact ⟨⟨ho, z, hd, h2, h5, es, ep, h3, h4⟩, ⟨o, ho⟩, fun h1 h2 ⟨e1, r⟩ k => ⟨k _ e1, r⟩⟩
end
section
variable {X : Cx} {F H : Hp} {pins : List (Addr × Obj)} {σ : L2.St} {s : Shared} {A : Around} {E : Value → Shared → Prop} {a : Addr} {t : Bool} {ks : List (D × D)} {y v : V} {k d : D} {u r : Value} {j : Nat}
theorem dx_in {Q : Value → Shared → Prop} (hr : Room j A) (I : Inv X pins σ H s) (ex : Ex F H) (hd : DicO (bx X) F a t ks (H a)) (hk : Rp (bx X) F y k) (ko : kOkB t k = true) (ry : RelV y u) (h : ∀ s', Inv X pins σ H s' → Q (.bool (getK ks k).isSome) s') :
    wpAny (model X.prog X.w) A (compareOp .In u (.ref a)) Q E s := by
  rcases hd with ⟨rfl, kv, ob, e, rk⟩ | ⟨rfl, xs, ob, e, rk⟩
  · obtain ⟨q, rfl⟩ := kOk_f ko
    have := rp_key hk
    subst this
    obtain ⟨_, z, hs, vs, rel, dd⟩ := dk_at I e
    refine wpAny_in_of (kV_is ry) hs dd.mapOf ?_
    rw [← (rel.val q).isSome_eq]
    have e2 : (valV kv q).isSome = (getK ks (keyD q)).isSome := by rcases rk.get q with ⟨e1, e2⟩ | ⟨_, _, e1, e2, _⟩ <;> rw [e1, e2] <;> rfl
    rw [e2]
    exact h _ (I.tok _)
  · obtain ⟨zs, n, rfl, hn, h8⟩ := kOk_t ko
    obtain ⟨dd, hs, z, _⟩ := raw_at I ex e rk
    cases hk with
    | tup h1 h2 =>
      cases ry
      refine wpAny_in_heap (roomN hr) ⟨Rp.nst I ex (.tup h1 h2) hn rfl, h8⟩ hs dd ?_
      have e2 : (atKey xs n).isSome = (getK ks (.tup zs)).isSome := by rcases rk.get hn with ⟨e1, e2⟩ | ⟨_, _, _, _, e1, _, _, e2⟩ <;> rw [e1, e2] <;> rfl
      rw [e2]
      exact h _ (I.tok _)
theorem dx_notIn {Q : Value → Shared → Prop} (hr : Room j A) (I : Inv X pins σ H s) (ex : Ex F H) (hd : DicO (bx X) F a t ks (H a)) (hk : Rp (bx X) F y k) (ko : kOkB t k = true) (ry : RelV y u) (h : ∀ s', Inv X pins σ H s' → Q (.bool (!(getK ks k).isSome)) s') :
    wpAny (model X.prog X.w) A (compareOp .NotIn u (.ref a)) Q E s := by
  rcases hd with ⟨rfl, kv, ob, e, rk⟩ | ⟨rfl, xs, ob, e, rk⟩
  · obtain ⟨q, rfl⟩ := kOk_f ko
    have := rp_key hk
    subst this
    obtain ⟨_, z, hs, vs, rel, dd⟩ := dk_at I e
    refine wpAny_notIn_of (kV_is ry) hs dd.mapOf ?_
    rw [← (rel.val q).isSome_eq]
    have e2 : (valV kv q).isSome = (getK ks (keyD q)).isSome := by rcases rk.get q with ⟨e1, e2⟩ | ⟨_, _, e1, e2, _⟩ <;> rw [e1, e2] <;> rfl
    rw [e2]
    exact h _ (I.tok _)
  · obtain ⟨zs, n, rfl, hn, h8⟩ := kOk_t ko
    obtain ⟨dd, hs, z, _⟩ := raw_at I ex e rk
    cases hk with
    | tup h1 h2 =>
      cases ry
      refine wpAny_notIn_heap (roomN hr) ⟨Rp.nst I ex (.tup h1 h2) hn rfl, h8⟩ hs dd ?_
      have e2 : (atKey xs n).isSome = (getK ks (.tup zs)).isSome := by rcases rk.get hn with ⟨e1, e2⟩ | ⟨_, _, _, _, e1, _, _, e2⟩ <;> rw [e1, e2] <;> rfl
      rw [e2]
      exact h _ (I.tok _)
theorem dx_item {Q : Value → Shared → Prop} (hr : Room j A) (I : Inv X pins σ H s) (ex : Ex F H) (hd : DicO (bx X) F a t ks (H a)) (hk : Rp (bx X) F y k) (ko : kOkB t k = true) (ry : RelV y u) (hg : getK ks k = some d) (h : ∀ v w' s', Inv X pins σ H s' → RelV v w' → Rp (bx X) F v d → Q w' s') :
    wpAny (model X.prog X.w) A (getItem (.ref a) u) Q E s := by
  rcases hd with ⟨rfl, kv, ob, e, rk⟩ | ⟨rfl, xs, ob, e, rk⟩
  · obtain ⟨q, rfl⟩ := kOk_f ko
    have := rp_key hk
    subst this
    obtain ⟨_, z, hs, vs, rel, dd⟩ := dk_at I e
    rcases rk.get q with ⟨e1, e2⟩ | ⟨v, d', e1, e2, rv⟩
    · rw [hg] at e2; cases e2
    · rw [hg] at e2; cases e2
      obtain ⟨w', hw, rw'⟩ := RelO.some_of (v := v) (o := valueAt vs q) (by rw [← e1]; exact rel.val q)
      exact wpAny_getItem_of (kV_is ry) dd.mapOf hw (h v w' _ (I.tok _) rw' rv)
  · obtain ⟨zs, n, rfl, hn, h8⟩ := kOk_t ko
    obtain ⟨dd, hs, z, _⟩ := raw_at I ex e rk
    cases hk with
    | tup h1 h2 =>
      cases ry
      rcases rk.get hn with ⟨e1, e2⟩ | ⟨b, w', v, d', e1, rw', rv, e2⟩
      · rw [hg] at e2; cases e2
      · rw [hg] at e2; cases e2
        exact wpAny_getItem_heap (roomN hr) ⟨Rp.nst I ex (.tup h1 h2) hn rfl, h8⟩ dd e1 (h v w' _ (I.tok _) rw' rv)
/-- d.get(k, x) -/
theorem dx_get2 {Q : Value → Shared → Prop} {x : V} {dx : D} {rx : Value} (hr : Room j A) (I : Inv X pins σ H s) (ex : Ex F H) (hd : DicO (bx X) F a t ks (H a)) (hk : Rp (bx X) F y k) (ko : kOkB t k = true) (ry : RelV y u) (hx : Rp (bx X) F x dx) (rrx : RelV x rx) (h : ∀ v w' s', Inv X pins σ H s' → RelV v w' → Rp (bx X) F v ((getK ks k).getD dx) → Q w' s') :
    wpAny (model X.prog X.w) A (call (.builtin "dict.get") [.ref a, u, rx]) Q E s := by
  rcases hd with ⟨rfl, kv, ob, e, rk⟩ | ⟨rfl, xs, ob, e, rk⟩
  · obtain ⟨q, rfl⟩ := kOk_f ko
    have := rp_key hk
    subst this
    obtain ⟨_, z, hs, vs, rel, dd⟩ := dk_at I e
    refine call_meetsIn PySem.F.slot_dict_get dd.typeIs PySem.F.entry_dict_get (PySem.F.args_dict_get_3 _ _ _) (meets_dict_get_default (mixKind X.prog X.w) a (kV_is ry) hs rx) ⟨_, dd.mapOf, ?_⟩
    have rr := (rel.val q).getD rrx
    rcases rk.get q with ⟨e1, e2⟩ | ⟨v, d', e1, e2, rv⟩
    · rw [e1] at rr
      exact h x _ _ (I.tok _) rr (by rw [e2]; exact hx)
    · rw [e1] at rr
      exact h v _ _ (I.tok _) rr (by rw [e2]; exact rv)
  · obtain ⟨zs, n, rfl, hn, h8⟩ := kOk_t ko
    obtain ⟨dd, hs, z, _⟩ := raw_at I ex e rk
    cases hk with
    | tup h1 h2 =>
      cases ry
      refine call_meetsIn PySem.F.slot_dict_get dd.typeIs PySem.F.entry_dict_get (PySem.F.args_dict_get_3 _ _ _) (meetsH_dict_get_default (nestedKind X.prog X.w) a _ hs rx) ⟨roomN hr, n, xs, ⟨Rp.nst I ex (.tup h1 h2) hn rfl, h8⟩, dd, ?_⟩
      rcases rk.get hn with ⟨e1, e2⟩ | ⟨b, w', v, d', e1, rw', rv, e2⟩
      · rw [e1]
        exact h x _ _ (I.tok _) rrx (by rw [e2]; exact hx)
      · rw [e1]
        exact h v _ _ (I.tok _) rw' (by rw [e2]; exact rv)
theorem putG_len (ks : List (D × D)) (k v : D) : (putG ks k v).length ≤ ks.length + 1 := by
  unfold putG
  split <;> simp
/-- d[k] = v -/
theorem dx_set {Q : Unit → Shared → Prop} (hr : Room j A) (I : Inv X pins σ H s) (ex : Ex F H) (hd : DicO (bx X) F a t ks (H a)) (hk : Rp (bx X) F y k) (ko : kOkB t k = true) (hl : ks.length < sizeLine) (ry : RelV y u) (hv : Rp (bx X) F v d) (rv : RelV v r)
    (h : ∀ o' s', DicO (bx X) F a t (putG ks k d) (some o') → Inv X pins σ (upd H a o') s' → Q () s') : wpAny (model X.prog X.w) A (setItem (.ref a) u r) Q E s := by
  rcases hd with ⟨rfl, kv, ob, e, rk⟩ | ⟨rfl, xs, ob, e, rk⟩
  · obtain ⟨q, rfl⟩ := kOk_f ko
    have := rp_key hk
    subst this
    obtain ⟨_, z, hs, vs, rel, dd⟩ := dk_at I e
    have hz : vs.length ≤ sizeLine := by rw [← rel.length]; exact z
    have hl2 : (putK kv q v).length ≤ sizeLine := by have := length_putK kv q v; have := rk.len; omega
    refine wpAny_setItem_pairs (hsz := hz) (kV_is ry) dd fun h' dd' hs' => ?_
    obtain ⟨ob', hq⟩ : ∃ q, h'.get? a = some q := let ⟨q, _, _, hq, _⟩ := dd'; ⟨q, hq⟩
    exact h (.ext (DkAt (bx X) a ob' (putK kv q v))) _ (.inl ⟨rfl, _, ob', rfl, rk.put hv q⟩) (d_write I (by rw [e]; exact True.intro) hs' ⟨_, hq⟩ (dk_ok hq hl2 hs (rel.put q rv) dd'))
  · obtain ⟨zs, n, rfl, hn, h8⟩ := kOk_t ko
    obtain ⟨dd, hs, z, _⟩ := raw_at I ex e rk
    cases hk with
    | tup h1 h2 =>
      rename_i b vs
      cases ry
      refine wpAny_setItem_heap (hsz := z) (roomN hr) ⟨Rp.nst I ex (.tup h1 h2) hn rfl, h8⟩ dd fun h' dd' hs' => ?_
      have rk' := rk.put (b := b) hv rv (.tup h1 h2) hn h8
      have hl2 : (storedH xs n b r).length ≤ sizeLine := by rw [rk'.len]; have := putG_len ks (.tup zs) d; omega
      obtain ⟨ob', hq⟩ : ∃ q, h'.get? a = some q := let ⟨q, _, _, hq, _⟩ := dd'; ⟨q, hq⟩
      exact h (.ext (RawD (bx X) a ob' (storedH xs n b r))) _ (.inr ⟨rfl, _, ob', rfl, rk'⟩) (d_write I (by rw [e]; exact True.intro) hs' ⟨_, hq⟩ (raw_ok hl2 hs hq dd'))
/-- d.setdefault(k, x) -/
theorem dx_setd {Q : Value → Shared → Prop} {x : V} {dx : D} {rx : Value} (hr : Room j A) (I : Inv X pins σ H s) (ex : Ex F H) (hd : DicO (bx X) F a t ks (H a)) (hk : Rp (bx X) F y k) (ko : kOkB t k = true) (hl : ks.length < sizeLine) (ry : RelV y u) (hx : Rp (bx X) F x dx) (rrx : RelV x rx)
    (h1 : ∀ d v w' s', getK ks k = some d → Inv X pins σ H s' → RelV v w' → Rp (bx X) F v d → Q w' s') (h2 : ∀ o' s', getK ks k = none → DicO (bx X) F a t (putG ks k dx) (some o') → Inv X pins σ (upd H a o') s' → Q rx s') :
    wpAny (model X.prog X.w) A (call (.builtin "dict.setdefault") [.ref a, u, rx]) Q E s := by
  rcases hd with ⟨rfl, kv, ob, e, rk⟩ | ⟨rfl, xs, ob, e, rk⟩
  · obtain ⟨q, rfl⟩ := kOk_f ko
    have := rp_key hk
    subst this
    obtain ⟨_, z, hs, vs, rel, dd⟩ := dk_at I e
    have hz : vs.length ≤ sizeLine := by rw [← rel.length]; exact z
    refine call_meetsIn PySem.F.slot_dict_setdefault dd.typeIs PySem.F.entry_dict_setdefault (PySem.F.args_dict_setdefault_3 _ _ _) (kt_meets_setdefault (mixKind X.prog X.w) a (kV_is ry) hs rx) ⟨vs, dd, hz, fun w0 hv => ?_, fun hn h' dd' hs' => ?_⟩
    · have q0 := rel.val q
      rw [hv] at q0
      rcases rk.get q with ⟨e1, e2⟩ | ⟨v, d', e1, e2, rv⟩
      · rw [e1] at q0; exact (show False from q0).elim
      · rw [e1] at q0; exact h1 d' v _ _ e2 (I.tok _) q0 rv
    · have q0 := rel.val q
      rw [hn] at q0
      rcases rk.get q with ⟨e1, e2⟩ | ⟨v, d', e1, e2, rv⟩
      · have hl2 : (putK kv q x).length ≤ sizeLine := by have := length_putK kv q x; have := rk.len; omega
        obtain ⟨ob', hq⟩ : ∃ q, h'.get? a = some q := let ⟨q, _, _, hq, _⟩ := dd'; ⟨q, hq⟩
        exact h2 (.ext (DkAt (bx X) a ob' (putK kv q x))) _ e2 (.inl ⟨rfl, _, ob', rfl, rk.put hx q⟩) (d_write I (by rw [e]; exact True.intro) hs' ⟨_, hq⟩ (dk_ok hq hl2 hs (rel.put q rrx) dd'))
      · rw [e1] at q0; exact (show False from q0).elim
  · obtain ⟨zs, n, rfl, hn, h8⟩ := kOk_t ko
    obtain ⟨dd, hs, z, _⟩ := raw_at I ex e rk
    cases hk with
    | tup g1 g2 =>
      rename_i b vs
      cases ry
      refine call_meetsIn PySem.F.slot_dict_setdefault dd.typeIs PySem.F.entry_dict_setdefault (PySem.F.args_dict_setdefault_3 _ _ _) (meetsH_dict_setdefault (nestedKind X.prog X.w) a _ hs rx) ⟨roomN hr, n, xs, ⟨Rp.nst I ex (.tup g1 g2) hn rfl, h8⟩, dd, z, fun p hp => ?_, fun hno h' dd' hs' => ?_⟩
      · rcases rk.get hn with ⟨e1, e2⟩ | ⟨b, w', v, d', e1, rw', rv, e2⟩
        · rw [e1] at hp; cases hp
        · rw [e1] at hp; cases hp; exact h1 d' v _ _ e2 (I.tok _) rw' rv
      · rcases rk.get hn with ⟨e1, e2⟩ | ⟨b, w', v, d', e1, rw', rv, e2⟩
        · have rk' := rk.put (b := b) hx rrx (.tup g1 g2) hn h8
          have hl2 : (storedH xs n b rx).length ≤ sizeLine := by rw [rk'.len]; have := putG_len ks (.tup zs) dx; omega
          obtain ⟨ob', hq⟩ : ∃ q, h'.get? a = some q := let ⟨q, _, _, hq, _⟩ := dd'; ⟨q, hq⟩
          exact h2 (.ext (RawD (bx X) a ob' (storedH xs n b rx))) _ e2 (.inr ⟨rfl, _, ob', rfl, rk'⟩) (d_write I (by rw [e]; exact True.intro) hs' ⟨_, hq⟩ (raw_ok hl2 hs hq dd'))
        · rw [hno] at e1; cases e1
theorem dx_len {Q : Value → Shared → Prop} (I : Inv X pins σ H s) (ex : Ex F H) (hd : DicO (bx X) F a t ks (H a)) (h : ∀ tk s', Inv X pins σ H s' → Q (.int ks.length tk) s') : wpAny (model X.prog X.w) A (call (.builtin "len") [.ref a]) Q E s := by
  rcases hd with ⟨rfl, kv, ob, e, rk⟩ | ⟨rfl, xs, ob, e, rk⟩
  · obtain ⟨_, z, hs, vs, rel, dd⟩ := dk_at I e
    refine call_len_dict hs dd (by rw [← rel.length]; rw [sizeLine_eq] at z; omega) ?_
    rw [← rel.length, rk.len]
    exact h _ _ (I.tok _)
  · obtain ⟨dd, hs, z, _⟩ := raw_at I ex e rk
    refine call_len_dictH hs dd (by rw [sizeLine_eq] at z; omega) ?_
    rw [rk.len]
    exact h _ _ (I.tok _)
end
/-! ### rules by values -/
theorem RpR.key {B : Bx} {F H : Hp} {v : V} {t : Bool} {k : D} (h : RpR B F H v k) (ko : kOkB t k = true) : Rp B F v k := by
  cases t
  · obtain ⟨q, rfl⟩ := kOk_f ko
    cases q with
    | inl i => exact h
    | inr x => exact h
  · obtain ⟨xs, n, rfl, _⟩ := kOk_t ko
    exact h
def rInX (B : Bx) (neg : Bool) : R2 := fun x y H Q => ∃ F a t ks k, Ex F H ∧ y = .ref a ∧ DicO B F a t ks (H a) ∧ Rp B F x k ∧ kOkB t k = true ∧ Q (.bl (if neg then !(getK ks k).isSome else (getK ks k).isSome)) H
section
variable {X : Cx} {j : Nat}
theorem op_inX (hr : Room j X.A) : OpR X (compareOp .In) (rInX (bx X) false) := by
  intro pins s σ H x y v u Q I rx ry h
  obtain ⟨F, a, t, ks, k, ex, rfl, hd, hk, ko, q⟩ := h
  cases ry
  exact dx_in hr I ex hd hk ko rx fun s' I' => ⟨.bl _, H, I', rfl, q⟩
theorem op_notInX (hr : Room j X.A) : OpR X (compareOp .NotIn) (rInX (bx X) true) := by
  intro pins s σ H x y v u Q I rx ry h
  obtain ⟨F, a, t, ks, k, ex, rfl, hd, hk, ko, q⟩ := h
  cases ry
  exact dx_notIn hr I ex hd hk ko rx fun s' I' => ⟨.bl _, H, I', rfl, q⟩
theorem dx_type {F H : Hp} {pins : List (Addr × Obj)} {σ : L2.St} {s : Shared} {a : Addr} {t : Bool} {ks : List (D × D)} (I : Inv X pins σ H s) (ex : Ex F H) (hd : DicO (bx X) F a t ks (H a)) : s.TypeIs (.ref a) "dict" := by
  rcases hd with ⟨rfl, kv, ob, e, rk⟩ | ⟨rfl, xs, ob, e, rk⟩
  · obtain ⟨_, z, hs, vs, rel, dd⟩ := dk_at I e
    exact dd.typeIs
  · obtain ⟨dd, hs, z, _⟩ := raw_at I ex e rk
    exact dd.typeIs
theorem dx_bare {F H : Hp} {pins : List (Addr × Obj)} {σ : L2.St} {s : Shared} {a : Addr} {t : Bool} {ks : List (D × D)} (I : Inv X pins σ H s) (ex : Ex F H) (hd : DicO (bx X) F a t ks (H a)) : ∀ b, Value.ref a = .ref b → ∃ ob, s.heap.get? b = some ob ∧ ob.dict = none := by
  intro b e
  cases e
  rcases hd with ⟨rfl, kv, ob, e, rk⟩ | ⟨rfl, xs, ob, e, rk⟩
  · obtain ⟨_, z, hs, vs, rel, o, es, ep, ho, hx, r⟩ := dk_at I e
    exact ⟨o, ho, hx.2.1⟩
  · obtain ⟨⟨o, es, ep, ho, hx, r⟩, hs, z, _⟩ := raw_at I ex e rk
    exact ⟨o, ho, hx.2.1⟩
def rIxX (B : Bx) : R2 := fun x y H Q => ∃ F a t ks k d, Ex F H ∧ x = .ref a ∧ DicO B F a t ks (H a) ∧ Rp B F y k ∧ kOkB t k = true ∧ getK ks k = some d ∧ ∀ v, Rp B F v d → Q v H
theorem ix_dic (hr : Room j X.A) : IxR X (rIxX (bx X)) := by
  intro value slice pins s σ H x y v u Q I rx ry h hs
  obtain ⟨F, a, t, ks, k, d, ex, rfl, hd, hk, ko, hg, q⟩ := h
  cases rx
  exact tail_any (dx_type I ex hd) slot_dict_getitem.lookup (dx_item hr I ex hd hk ko ry hg fun v w' s' I' rw' rv => ⟨v, H, I', rw', q v rv⟩) hs
def rLenX (B : Bx) : List V → Hp → VK → Prop := fun xs H Q => ∃ F a t ks, Ex F H ∧ xs = [.ref a] ∧ DicO B F a t ks (H a) ∧ Q (.int ks.length) H
theorem call_lenX : CallR X (.builtin "len") (rLenX (bx X)) := by
  intro pins s σ H xs us Q I r h
  obtain ⟨F, a, t, ks, ex, rfl, hd, q⟩ := h
  obtain ⟨u, rfl, rx⟩ := r.one
  cases rx
  exact dx_len I ex hd fun tk s' I' => ⟨.int ks.length, H, I', ⟨tk, rfl⟩, q⟩
end
end Z

namespace Z
open PySem PySem.Spec PyProof.Rows L2
open Evl (Ex)
section
variable {X : Cx} {wx : WX} {e a b c : Expr} {es rest : List Expr} {T Ta Tb Tc : DTE} {pos : Pos} {U U' : DTT}

/-! ### comparisons -/
theorem de_cmp {op : CmpOp} {r : R2} {o : OpD} (ho : OpR X (compareOp op) r) (hr : RfO (bx X) r o) (ha : DR X wx a Ta) (hb : DR X wx b Tb) (hm : behindInMarks op b = false) : DE X wx (.Compare a [op] [b] pos) (dOp o Ta Tb) := by
  obtain ⟨ta, pa, ra⟩ := ha
  obtain ⟨tb, pb, rb⟩ := hb
  exact ⟨_, pe_cmpR ho pa pb hm, rf_op ra rb hr⟩
/-- a value that is a truth, as a test -/
def dTst (T : DTE) : DTT := fun ρ M Q E => T ρ M (fun x M' => match x with | .bl k => Q k M' | _ => False) E
theorem rf_tst {B : Bx} {t : TE} (h : RfE B wx t T) : RfT B wx (tTest t) (dTst T) := fun W0 W m σ ρ M Q Qd Ed R k h1 h2 h3 => by
  refine h W0 W m σ ρ M _ _ Ed R k h1 (fun d v W' m' M' q le k' hv => ?_) h3
  cases d with
  | bl k => cases hv; exact ⟨k, rfl, h2 k W' m' M' q le k'⟩
  | _ => exact q.elim
theorem dt_cmp {op : CmpOp} {r : R2} {o : OpD} (ho : OpR X (compareOp op) r) (hr : RfO (bx X) r o) (ha : DR X wx a Ta) (hb : DR X wx b Tb) (hm : behindInMarks op b = false) : DT X wx (.Compare a [op] [b] pos) (dTst (dOp o Ta Tb)) := by
  obtain ⟨ta, pa, ra⟩ := ha
  obtain ⟨tb, pb, rb⟩ := hb
  exact ⟨_, pt_cmpR ho pa pb hm, rf_tst (rf_op ra rb hr)⟩
/-- a op b op' c -/
def dChain (o o' : OpD) (a b c : DTE) : DTE := fun ρ M Q E => a ρ M (fun x M1 => b ρ M1 (fun y M2 => o (drf M2 x) (drf M2 y) fun z => match z with
  | .bl k => if k = true then c ρ M2 (fun w M3 => o' (drf M3 y) (drf M3 w) fun d => Q d M3) E else Q (.bl false) M2
  | _ => False) E) E
theorem rf_chain {B : Bx} {ta tb tc : TE} {r r' : R2} {o o' : OpD} (ha : RfR B wx ta Ta) (hb : RfR B wx tb Tb) (hc : RfR B wx tc Tc) (hr : RfO B r o) (hr' : RfO B r' o') : RfE B wx (tChain r r' ta tb tc) (dChain o o' Ta Tb Tc) := fun W0 W m σ ρ M Q Qd Ed R k h1 h2 h3 => by
  refine ha W0 W m σ ρ M _ _ Ed R k h1 (fun d v W' m' M' q le k' hv => ?_) h3
  refine hb W0 W' m' σ ρ M' _ _ Ed (R.mono le) k' q (fun d2 v2 W'' m'' M'' q2 le2 k'' hv2 => ?_) (h3.up le)
  refine hr W'' m'' M'' v v2 _ _ _ _ k'' ((hv.le le2).drf k'') (hv2.drf k'') q2 fun d3 v3 W3 q3 le3 k3 hv3 => ?_
  cases d3 with
  | bl k =>
    cases hv3
    refine ⟨k, rfl, ?_⟩
    cases k with
    | false => exact h2 _ _ W3 m'' M'' q3 ((le.trans le2).trans le3) k3 (.bl _)
    | true =>
      refine hc W0 W3 m'' σ ρ M'' _ _ Ed (R.mono ((le.trans le2).trans le3)) k3 q3 (fun d4 v4 W4 m4 M4 q4 le4 k4 hv4 => ?_) (h3.up ((le.trans le2).trans le3))
      exact hr' W4 m4 M4 v2 v4 _ _ Q _ k4 ((hv2.le (le3.trans le4)).drf k4) (hv4.drf k4) q4 fun d5 v5 W5 q5 le5 k5 hv5 => h2 d5 v5 W5 m4 M4 q5 ((((le.trans le2).trans le3).trans le4).trans le5) k5 hv5
  | _ => exact q3.elim
theorem dt_chain {op op' : CmpOp} {r r' : R2} {o o' : OpD} (ho : OpR X (compareOp op) r) (hr : RfO (bx X) r o) (ho' : OpR X (compareOp op') r') (hr' : RfO (bx X) r' o') (ha : DR X wx a Ta) (hb : DR X wx b Tb) (hc : DR X wx c Tc)
    (hm : lastMarks [op, op'] [b, c] = false := by with_unfolding_all rfl) : DT X wx (.Compare a [op, op'] [b, c] pos) (dTst (dChain o o' Ta Tb Tc)) := by
  obtain ⟨ta, pa, ra⟩ := ha
  obtain ⟨tb, pb, rb⟩ := hb
  obtain ⟨tc, pc, rc⟩ := hc
  exact ⟨_, pt_chain ho ho' pa pb pc hm, rf_tst (rf_chain ra rb rc hr hr')⟩
def oLt (x y : D) (Q : D → Prop) : Prop := match x, y with
  | .int i, .int j => Q (.bl (decide (i < j)))
  | _, _ => False
def oLe (x y : D) (Q : D → Prop) : Prop := match x, y with
  | .int i, .int j => Q (.bl (decide (i ≤ j)))
  | _, _ => False
def oGt (x y : D) (Q : D → Prop) : Prop := match x, y with
  | .int i, .int j => Q (.bl (decide (j < i)))
  | _, _ => False
def oGe (x y : D) (Q : D → Prop) : Prop := match x, y with
  | .int i, .int j => Q (.bl (decide (j ≤ i)))
  | _, _ => False
theorem rf_lt {B : Bx} : RfO B (rI0 fun i j => .bl (decide (i < j))) oLt := rf_int0 (gd := fun i j => .bl (decide (i < j))) (fun _ _ _ => .bl _) fun x y Q h => by
  unfold oLt at h
  split at h
  · exact ⟨_, _, rfl, rfl, h⟩
  · exact h.elim
theorem rf_le {B : Bx} : RfO B (rI0 fun i j => .bl (decide (i ≤ j))) oLe := rf_int0 (gd := fun i j => .bl (decide (i ≤ j))) (fun _ _ _ => .bl _) fun x y Q h => by
  unfold oLe at h
  split at h
  · exact ⟨_, _, rfl, rfl, h⟩
  · exact h.elim
theorem rf_gt {B : Bx} : RfO B (rI0 fun i j => .bl (decide (j < i))) oGt := rf_int0 (gd := fun i j => .bl (decide (j < i))) (fun _ _ _ => .bl _) fun x y Q h => by
  unfold oGt at h
  split at h
  · exact ⟨_, _, rfl, rfl, h⟩
  · exact h.elim
/-- is None -/
def D.isNon : D → Bool
  | .non => true
  | _ => false
def oIsN (x y : D) (Q : D → Prop) : Prop := y = .non ∧ Q (.bl x.isNon)
def oNotN (x y : D) (Q : D → Prop) : Prop := y = .non ∧ Q (.bl (!x.isNon))
theorem isNon_of {B : Bx} {F H : Hp} {x : V} {d : D} (h : RpR B F H x d) : decide (x = V.non) = d.isNon := by
  cases d with
  | non => cases h; rfl
  | lst _ => obtain ⟨a, vs, rfl, _⟩ := h; rfl
  | obj _ _ => obtain ⟨a, dx, vs, rfl, _⟩ := h; rfl
  | dic _ _ => obtain ⟨a, rfl, _⟩ := h; rfl
  | _ => cases h <;> rfl
theorem rf_isN {B : Bx} : RfO B (fun x y H Q => y = .non ∧ Q (.bl (decide (x = .non))) H) oIsN := by
  intro W m M x y dx dy Q Qd mk rx ry h k
  obtain ⟨rfl, q⟩ := h
  cases ry
  refine ⟨rfl, ?_⟩
  rw [isNon_of rx]
  exact k _ _ W q (Wd.le.refl W) mk (.bl _)
theorem rf_notN {B : Bx} : RfO B (fun x y H Q => y = .non ∧ Q (.bl (!decide (x = .non))) H) oNotN := by
  intro W m M x y dx dy Q Qd mk rx ry h k
  obtain ⟨rfl, q⟩ := h
  cases ry
  refine ⟨rfl, ?_⟩
  rw [isNon_of rx]
  exact k _ _ W q (Wd.le.refl W) mk (.bl _)

/-! ### == of data -/
mutual
def D.py : D → PyData
  | .non => .none
  | .bl b => .bool b
  | .int i => .int i
  | .str x => .str x
  | .lst xs => .list (pyL xs)
  | .tup xs => .tuple (pyL xs)
  | _ => .dict []
def pyL : List D → List PyData
  | [] => []
  | x :: xs => x.py :: pyL xs
end
mutual
theorem Rp.dp {B : Bx} {F H : Hp} (ok : Ex F H) : ∀ {v : V} {d : D}, Rp B F v d → PyData.canLay0 d.py = true → Dp B.K H v d.py
  | _, _, .non, _ => .non
  | _, _, .bl b, _ => .bl b
  | _, _, .int i, _ => .int i
  | _, _, .str x, _ => .str x
  | _, _, .lst h a, c => .lst (Evl.ex_l ok h) (RpAll.dp ok a (by simpa [D.py, PyData.canLay0] using c))
  | _, _, .tup h a, c => .tup (Evl.ex_t ok h) (RpAll.dp ok a (by simpa [D.py, PyData.canLay0] using c))
  | _, _, .ty n, c => by simp [D.py, PyData.canLay0] at c
  | _, _, .ref a, c => by simp [D.py, PyData.canLay0] at c
  | _, _, .obj h a, c => by simp [D.py, PyData.canLay0] at c
  | _, _, .exc h, c => by simp [D.py, PyData.canLay0] at c
  | _, _, .dic h a, c => by simp [D.py, PyData.canLay0] at c
  | _, _, .dit h a, c => by simp [D.py, PyData.canLay0] at c
  | _, _, .cls n, c => by simp [D.py, PyData.canLay0] at c
theorem RpAll.dp {B : Bx} {F H : Hp} (ok : Ex F H) : ∀ {v : List V} {d : List D}, RpAll B F v d → PyData.canLayAll0 (pyL d) = true → DpAll B.K H v (pyL d)
  | _, _, .nil, _ => .nil
  | _, _, .cons h t, c => by
    have c' := c
    simp only [pyL, PyData.canLayAll0, Bool.and_eq_true] at c'
    exact .cons (Rp.dp ok h c'.1) (RpAll.dp ok t c'.2)
end
theorem RpR.dp {B : Bx} {F H : Hp} (ok : Ex F H) {v : V} {d : D} (h : RpR B F H v d) (c : PyData.canLay0 d.py = true) : Dp B.K H v d.py := by
  cases d with
  | lst ds => obtain ⟨a, vs, rfl, h1, h2⟩ := h; exact .lst h1 (h2.dp ok (by simpa [D.py, PyData.canLay0] using c))
  | obj C fs => simp [D.py, PyData.canLay0] at c
  | dic _ ks => simp [D.py, PyData.canLay0] at c
  | non => exact Rp.dp ok h c
  | bl _ => exact Rp.dp ok h c
  | int _ => exact Rp.dp ok h c
  | str _ => exact Rp.dp ok h c
  | ty _ => exact Rp.dp ok h c
  | ref _ => exact Rp.dp ok h c
  | cls _ => exact Rp.dp ok h c
  | tup _ => exact Rp.dp ok h c
  | exc _ => exact Rp.dp ok h c
/-- nested data that may be compared: not too deep -/
def shp (d : PyData) : Bool := d.canLay0 && decide (d.depth ≤ 200)
theorem shp_lay {d : PyData} (h : shp d = true) : d.canLay0 = true := (Bool.and_eq_true_iff.mp h).1
theorem shp_dep {d : PyData} (h : shp d = true) : d.depth ≤ 200 := of_decide_eq_true (Bool.and_eq_true_iff.mp h).2
def rEqZ (K : PySem.W.Frag) : R2 := fun x y H Q => ∃ d e, Dp K H x d ∧ Dp K H y e ∧ shp d = true ∧ shp e = true ∧ Q (.bl (PyData.eqv d e)) H
def rNeZ (K : PySem.W.Frag) : R2 := fun x y H Q => ∃ d e, Dp K H x d ∧ Dp K H y e ∧ shp d = true ∧ shp e = true ∧ Q (.bl (!PyData.eqv d e)) H
theorem room_shp {k : Nat} (hr : Room k X.A) {d e : PyData} (h : shp d = true) : X.A.units + min d.depth e.depth < cLine := by
  have h1 := hr.un
  have h2 := shp_dep h
  have h3 : min d.depth e.depth ≤ d.depth := Nat.min_le_left _ _
  omega
theorem op_eqZ {k : Nat} (hr : Room k X.A) : OpR X (compareOp .Eq) (rEqZ X.K) := fun pins s σ H x y v u Q I rx ry ⟨d, e, hd, he, sd, se, q⟩ => by
  obtain ⟨_, r1⟩ := Dp.reads I d x v hd rx
  obtain ⟨_, r2⟩ := Dp.reads I e y u he ry
  exact SeqAt.compareEq_reads r1 r2 (shp_lay sd) (shp_lay se) (room_shp hr sd) ⟨.bl _, H, I, rfl, q⟩
theorem op_neZ {k : Nat} (hr : Room k X.A) : OpR X (compareOp .NotEq) (rNeZ X.K) := fun pins s σ H x y v u Q I rx ry ⟨d, e, hd, he, sd, se, q⟩ => by
  obtain ⟨_, r1⟩ := Dp.reads I d x v hd rx
  obtain ⟨_, r2⟩ := Dp.reads I e y u he ry
  exact SeqAt.compareNe_reads r1 r2 (shp_lay sd) (shp_lay se) (room_shp hr sd) ⟨.bl _, H, I, rfl, q⟩
/-- ==: plain data alike to scalars are decided at once -/
def oEqB (x y : D) (Q : Bool → Prop) : Prop := match x, y with
  | .int i, .int j => Q (decide (i = j))
  | .str a, .str b => Q (decide (a = b))
  | .bl a, .bl b => Q (decide (a = b))
  | .non, .non => Q true
  | .non, .int _ => Q false
  | .int _, .non => Q false
  | .non, .str _ => Q false
  | .str _, .non => Q false
  | x, y => shp x.py = true ∧ shp y.py = true ∧ Q (PyData.eqv x.py y.py)
def oEq (x y : D) (Q : D → Prop) : Prop := oEqB x y fun b => Q (.bl b)
def oNe (x y : D) (Q : D → Prop) : Prop := oEqB x y fun b => Q (.bl (!b))
theorem rf_eq {B : Bx} : RfO B (fun x y H Q => rEq x y H Q ∨ rEqZ B.K x y H Q) oEq := by
  intro W m M x y dx dy Q Qd mk rx ry h k
  have ok := W.ok.trans (cat_ex W.H m)
  unfold oEq oEqB at h
  split at h
  · cases rx; cases ry
    refine .inl ⟨rfl, ?_⟩
    rename_i i j
    have e : decide (V.int i = V.int j) = decide (i = j) := by simp
    rw [e]; exact k _ _ W h (Wd.le.refl W) mk (.bl _)
  · cases rx; cases ry
    refine .inl ⟨rfl, ?_⟩
    rename_i i j
    have e : decide (V.str i = V.str j) = decide (i = j) := by simp
    rw [e]; exact k _ _ W h (Wd.le.refl W) mk (.bl _)
  · cases rx; cases ry
    refine .inl ⟨rfl, ?_⟩
    rename_i i j
    have e : decide (V.bl i = V.bl j) = decide (i = j) := by simp
    rw [e]; exact k _ _ W h (Wd.le.refl W) mk (.bl _)
  · cases rx; cases ry
    exact .inl ⟨rfl, k _ _ W h (Wd.le.refl W) mk (.bl _)⟩
  · cases rx; cases ry
    exact .inl ⟨rfl, k _ _ W h (Wd.le.refl W) mk (.bl _)⟩
  · cases rx; cases ry
    exact .inl ⟨rfl, k _ _ W h (Wd.le.refl W) mk (.bl _)⟩
  · cases rx; cases ry
    exact .inl ⟨rfl, k _ _ W h (Wd.le.refl W) mk (.bl _)⟩
  · cases rx; cases ry
    exact .inl ⟨rfl, k _ _ W h (Wd.le.refl W) mk (.bl _)⟩
  · obtain ⟨s1, s2, q⟩ := h
    exact .inr ⟨_, _, rx.dp ok (shp_lay s1), ry.dp ok (shp_lay s2), s1, s2, k _ _ W q (Wd.le.refl W) mk (.bl _)⟩
theorem rf_ne {B : Bx} : RfO B (fun x y H Q => rNe x y H Q ∨ rNeZ B.K x y H Q) oNe := by
  intro W m M x y dx dy Q Qd mk rx ry h k
  have ok := W.ok.trans (cat_ex W.H m)
  unfold oNe oEqB at h
  split at h
  · cases rx; cases ry
    refine .inl ⟨rfl, ?_⟩
    rename_i i j
    have e : decide (V.int i = V.int j) = decide (i = j) := by simp
    rw [e]; exact k _ _ W h (Wd.le.refl W) mk (.bl _)
  · cases rx; cases ry
    refine .inl ⟨rfl, ?_⟩
    rename_i i j
    have e : decide (V.str i = V.str j) = decide (i = j) := by simp
    rw [e]; exact k _ _ W h (Wd.le.refl W) mk (.bl _)
  · cases rx; cases ry
    refine .inl ⟨rfl, ?_⟩
    rename_i i j
    have e : decide (V.bl i = V.bl j) = decide (i = j) := by simp
    rw [e]; exact k _ _ W h (Wd.le.refl W) mk (.bl _)
  · cases rx; cases ry
    exact .inl ⟨rfl, k _ _ W h (Wd.le.refl W) mk (.bl _)⟩
  · cases rx; cases ry
    exact .inl ⟨rfl, k _ _ W h (Wd.le.refl W) mk (.bl _)⟩
  · cases rx; cases ry
    exact .inl ⟨rfl, k _ _ W h (Wd.le.refl W) mk (.bl _)⟩
  · cases rx; cases ry
    exact .inl ⟨rfl, k _ _ W h (Wd.le.refl W) mk (.bl _)⟩
  · cases rx; cases ry
    exact .inl ⟨rfl, k _ _ W h (Wd.le.refl W) mk (.bl _)⟩
  · obtain ⟨s1, s2, q⟩ := h
    exact .inr ⟨_, _, rx.dp ok (shp_lay s1), ry.dp ok (shp_lay s2), s1, s2, k _ _ W q (Wd.le.refl W) mk (.bl _)⟩
theorem op_eqA {k : Nat} (hr : Room k X.A) : OpR X (compareOp .Eq) (fun x y H Q => rEq x y H Q ∨ rEqZ X.K x y H Q) := op_eq.or (op_eqZ hr)
theorem op_neA {k : Nat} (hr : Room k X.A) : OpR X (compareOp .NotEq) (fun x y H Q => rNe x y H Q ∨ rNeZ X.K x y H Q) := op_ne.or (op_neZ hr)

/-! ### in -/
def flatD : D → Bool
  | .int _ => true
  | .str _ => true
  | _ => false
def eqF : D → D → Bool
  | .int i, .int j => decide (i = j)
  | .str i, .str j => decide (i = j)
  | _, _ => false
def inD (x : D) (xs : List D) : Bool := xs.any fun y => eqF y x
def oInB (x y : D) (Q : Bool → Prop) : Prop := match x, y with
  | .str a, .str b => ∃ c : Nat, a = ⟨#[c]⟩ ∧ Q (decide (c ∈ b.cps.toList))
  | x, .lst ys => flatD x = true ∧ ys.all flatD = true ∧ Q (inD x ys)
  | x, .tup ys => flatD x = true ∧ ys.all flatD = true ∧ Q (inD x ys)
  | x, .dic t ks => kOkB t x = true ∧ Q (getK ks x).isSome
  | _, _ => False
def oIn (x y : D) (Q : D → Prop) : Prop := oInB x y fun b => Q (.bl b)
def oNotIn (x y : D) (Q : D → Prop) : Prop := oInB x y fun b => Q (.bl (!b))
theorem flat_of {B : Bx} {F : Hp} {v : V} {d : D} (h : Rp B F v d) (f : flatD d = true) : (∃ i, d = .int i ∧ v = .int i) ∨ ∃ x, d = .str x ∧ v = .str x := by
  cases d with
  | int i => cases h; exact .inl ⟨i, rfl, rfl⟩
  | str x => cases h; exact .inr ⟨x, rfl, rfl⟩
  | _ => cases f
theorem flatR_of {B : Bx} {F H : Hp} {v : V} {d : D} (h : RpR B F H v d) (f : flatD d = true) : Rp B F v d := by
  cases d with
  | int i => exact h
  | str x => exact h
  | _ => cases f
theorem flat_V {B : Bx} {F : Hp} {v : V} {d : D} (h : Rp B F v d) (f : flatD d = true) : flatV v = true := by
  rcases flat_of h f with ⟨i, rfl, rfl⟩ | ⟨i, rfl, rfl⟩ <;> rfl
theorem eqF_of {B : Bx} {F : Hp} {v w : V} {d e : D} (h : Rp B F v d) (h' : Rp B F w e) (f : flatD d = true) (f' : flatD e = true) : eqV v w = eqF d e := by
  rcases flat_of h f with ⟨i, rfl, rfl⟩ | ⟨i, rfl, rfl⟩ <;> rcases flat_of h' f' with ⟨j, rfl, rfl⟩ | ⟨j, rfl, rfl⟩ <;> first | (simp [eqV, eqF]; done) | (show (_ == _) = decide _; rw [Bool.eq_iff_iff]; simp)
theorem inD_of {B : Bx} {F : Hp} {v : V} {d : D} (h : Rp B F v d) (f : flatD d = true) : ∀ {vs : List V} {ds : List D}, RpAll B F vs ds → ds.all flatD = true → vs.all flatV = true ∧ inV v vs = inD d ds
  | _, _, .nil, _ => ⟨rfl, rfl⟩
  | _, _, .cons r t, c => by
    have c' := c
    simp only [List.all_cons, Bool.and_eq_true] at c'
    obtain ⟨h1, h2⟩ := inD_of h f t c'.2
    refine ⟨by simp [List.all_cons, flat_V r c'.1, h1], ?_⟩
    unfold inV inD at h2 ⊢
    rw [List.any_cons, List.any_cons, h2, eqF_of r h c'.1 f]
theorem rf_inB {B : Bx} {neg : Bool} {r1 : R2} {o : OpD} (ho : ∀ x y Q, o x y Q → oInB x y fun b => Q (.bl (if neg then !b else b)))
    (h1 : ∀ (c : Nat) (z : Str) H (Q : VK), Q (.bl (if neg then !decide (c ∈ z.cps.toList) else decide (c ∈ z.cps.toList))) H → r1 (.str ⟨#[c]⟩) (.str z) H Q) : RfO B (fun x y H Q => r1 x y H Q ∨ rIn B.K neg x y H Q ∨ rInX B neg x y H Q) o := by
  intro W m M x y dx dy Q Qd mk rx ry h k
  have h := ho _ _ _ h
  unfold oInB at h
  split at h
  · obtain ⟨c, rfl, q⟩ := h
    cases rx; cases ry
    exact .inl (h1 c _ _ _ (k _ _ W q (Wd.le.refl W) mk (.bl _)))
  · obtain ⟨f, g, q⟩ := h
    obtain ⟨a, vs, rfl, h3, h4⟩ := ry
    obtain ⟨i1, i2⟩ := inD_of (flatR_of rx f) f h4 g
    refine .inr (.inl ⟨a, vs, rfl, .inl h3, flat_V (flatR_of rx f) f, i1, ?_⟩)
    rw [i2]
    exact k _ _ W q (Wd.le.refl W) mk (.bl _)
  · obtain ⟨f, g, q⟩ := h
    cases ry with
    | tup h3 h4 =>
      obtain ⟨i1, i2⟩ := inD_of (flatR_of rx f) f h4 g
      refine .inr (.inl ⟨_, _, rfl, .inr (Evl.ex_t (W.ok.trans (cat_ex W.H m)) h3), flat_V (flatR_of rx f) f, i1, ?_⟩)
      rw [i2]
      exact k _ _ W q (Wd.le.refl W) mk (.bl _)
  · obtain ⟨f, q⟩ := h
    obtain ⟨a, rfl, h3⟩ := ry
    exact .inr (.inr ⟨W.F, a, _, _, _, W.ok.trans (cat_ex W.H m), rfl, h3, rx.key f, f, k _ _ W q (Wd.le.refl W) mk (.bl _)⟩)
  · exact h.elim
theorem rf_in {B : Bx} : RfO B (fun x y H Q => (∃ (c : Nat) (z : Str), x = .str ⟨#[c]⟩ ∧ y = .str z ∧ Q (.bl (decide (c ∈ z.cps.toList))) H) ∨ rIn B.K false x y H Q ∨ rInX B false x y H Q) oIn :=
  rf_inB (neg := false) (fun x y Q h => h) fun c z H Q q => ⟨c, z, rfl, rfl, q⟩
theorem rf_notIn {B : Bx} : RfO B (fun x y H Q => (∃ (c : Nat) (z : Str), x = .str ⟨#[c]⟩ ∧ y = .str z ∧ Q (.bl (!decide (c ∈ z.cps.toList))) H) ∨ rIn B.K true x y H Q ∨ rInX B true x y H Q) oNotIn :=
  rf_inB (neg := true) (fun x y Q h => h) fun c z H Q q => ⟨c, z, rfl, rfl, q⟩
theorem op_inA {k : Nat} (hr : Room k X.A) : OpR X (compareOp .In) (fun x y H Q => (∃ (c : Nat) (z : Str), x = .str ⟨#[c]⟩ ∧ y = .str z ∧ Q (.bl (decide (c ∈ z.cps.toList))) H) ∨ rIn X.K false x y H Q ∨ rInX (bx X) false x y H Q) := op_in_sign.or (op_in_seq.or (op_inX hr))
theorem op_notInA {k : Nat} (hr : Room k X.A) : OpR X (compareOp .NotIn) (fun x y H Q => (∃ (c : Nat) (z : Str), x = .str ⟨#[c]⟩ ∧ y = .str z ∧ Q (.bl (!decide (c ∈ z.cps.toList))) H) ∨ rIn X.K true x y H Q ∨ rInX (bx X) true x y H Q) := op_notIn_sign.or (op_notIn_seq.or (op_notInX hr))

/-! ### and, or, not -/
def dAndT (t u : DTT) : DTT := fun ρ M Q E => t ρ M (fun c M' => if c = true then u ρ M' Q E else Q false M') E
def dOrT (t u : DTT) : DTT := fun ρ M Q E => t ρ M (fun c M' => if c = true then Q true M' else u ρ M' Q E) E
def dNotT (t : DTT) : DTT := fun ρ M Q E => t ρ M (fun c => Q (!c)) E
theorem dw_and1 (ha : DT X wx a U) : DW X wx (.BoolOp .And [a] pos) U := by
  obtain ⟨t, p, r⟩ := ha
  exact ⟨_, pw_and1 p, r⟩
theorem dw_or1 (ha : DT X wx a U) : DW X wx (.BoolOp .Or [a] pos) U := by
  obtain ⟨t, p, r⟩ := ha
  exact ⟨_, pw_or1 p, r⟩
theorem dw_and (ha : DT X wx a U) (hb : DW X wx (.BoolOp .And (b :: rest) pos) U') : DW X wx (.BoolOp .And (a :: b :: rest) pos) (dAndT U U') := by
  obtain ⟨t, p, r⟩ := ha
  obtain ⟨t', p', r'⟩ := hb
  refine ⟨_, pw_and p p', fun W0 W m σ ρ M Q Qd Ed R k h1 h2 h3 => r W0 W m σ ρ M _ _ Ed R k h1 (fun c W' m' M' q le k' => ?_) h3⟩
  cases c with
  | true => exact r' W0 W' m' σ ρ M' _ _ Ed (R.mono le) k' q (fun c' W'' m'' M'' q2 le2 => h2 c' W'' m'' M'' q2 (le.trans le2)) (h3.up le)
  | false => exact h2 false W' m' M' q le k'
theorem dw_or (ha : DT X wx a U) (hb : DW X wx (.BoolOp .Or (b :: rest) pos) U') : DW X wx (.BoolOp .Or (a :: b :: rest) pos) (dOrT U U') := by
  obtain ⟨t, p, r⟩ := ha
  obtain ⟨t', p', r'⟩ := hb
  refine ⟨_, pw_or p p', fun W0 W m σ ρ M Q Qd Ed R k h1 h2 h3 => r W0 W m σ ρ M _ _ Ed R k h1 (fun c W' m' M' q le k' => ?_) h3⟩
  cases c with
  | false => exact r' W0 W' m' σ ρ M' _ _ Ed (R.mono le) k' q (fun c' W'' m'' M'' q2 le2 => h2 c' W'' m'' M'' q2 (le.trans le2)) (h3.up le)
  | true => exact h2 true W' m' M' q le k'
theorem DW.t (h : DW X wx a U) : DT X wx a U := by
  obtain ⟨t, p, r⟩ := h
  exact ⟨_, p.pt, r⟩
theorem dt_not (ha : DT X wx a U) : DT X wx (.UnaryOp .Not a pos) (dNotT U) := by
  obtain ⟨t, p, r⟩ := ha
  exact ⟨_, pt_not p, fun W0 W m σ ρ M Q Qd Ed R k h1 h2 h3 => r W0 W m σ ρ M _ _ Ed R k h1 (fun c W' m' M' q le k' => h2 (!c) W' m' M' q le k') h3⟩
/-- .. as values -/
def dAndV (t u : DTE) : DTE := fun ρ M Q E => t ρ M (fun x M' => match x with | .bl c => if c = true then u ρ M' Q E else Q (.bl false) M' | _ => False) E
def dOrV (t u : DTE) : DTE := fun ρ M Q E => t ρ M (fun x M' => match x with | .bl c => if c = true then Q (.bl true) M' else u ρ M' Q E | _ => False) E
def dNotV (t : DTE) : DTE := fun ρ M Q E => t ρ M (fun x M' => match x with | .bl c => Q (.bl (!c)) M' | _ => False) E
theorem de_one {op} (h : DE X wx a T) : DE X wx (.BoolOp op [a] pos) T := by
  obtain ⟨t, p, r⟩ := h
  exact ⟨_, pe_one p, r⟩
theorem de_and (ha : DE X wx a Ta) (hb : DE X wx (.BoolOp .And (b :: rest) pos) Tb) : DE X wx (.BoolOp .And (a :: b :: rest) pos) (dAndV Ta Tb) := by
  obtain ⟨t, p, r⟩ := ha
  obtain ⟨t', p', r'⟩ := hb
  refine ⟨_, pe_and p p', fun W0 W m σ ρ M Q Qd Ed R k h1 h2 h3 => r W0 W m σ ρ M _ _ Ed R k h1 (fun d v W' m' M' q le k' hv => ?_) h3⟩
  cases d with
  | bl c =>
    cases hv
    refine ⟨c, rfl, ?_⟩
    cases c with
    | true => exact r' W0 W' m' σ ρ M' _ _ Ed (R.mono le) k' q (fun c' v' W'' m'' M'' q2 le2 => h2 c' v' W'' m'' M'' q2 (le.trans le2)) (h3.up le)
    | false => exact h2 _ _ W' m' M' q le k' (.bl _)
  | _ => exact q.elim
theorem de_or (ha : DE X wx a Ta) (hb : DE X wx (.BoolOp .Or (b :: rest) pos) Tb) : DE X wx (.BoolOp .Or (a :: b :: rest) pos) (dOrV Ta Tb) := by
  obtain ⟨t, p, r⟩ := ha
  obtain ⟨t', p', r'⟩ := hb
  refine ⟨_, pe_or p p', fun W0 W m σ ρ M Q Qd Ed R k h1 h2 h3 => r W0 W m σ ρ M _ _ Ed R k h1 (fun d v W' m' M' q le k' hv => ?_) h3⟩
  cases d with
  | bl c =>
    cases hv
    refine ⟨c, rfl, ?_⟩
    cases c with
    | false => exact r' W0 W' m' σ ρ M' _ _ Ed (R.mono le) k' q (fun c' v' W'' m'' M'' q2 le2 => h2 c' v' W'' m'' M'' q2 (le.trans le2)) (h3.up le)
    | true => exact h2 _ _ W' m' M' q le k' (.bl _)
  | _ => exact q.elim
theorem de_not (ha : DE X wx a Ta) : DE X wx (.UnaryOp .Not a pos) (dNotV Ta) := by
  obtain ⟨t, p, r⟩ := ha
  refine ⟨_, pe_not p, fun W0 W m σ ρ M Q Qd Ed R k h1 h2 h3 => r W0 W m σ ρ M _ _ Ed R k h1 (fun d v W' m' M' q le k' hv => ?_) h3⟩
  cases d with
  | bl c => cases hv; exact ⟨c, rfl, h2 _ _ W' m' M' q le k' (.bl _)⟩
  | _ => exact q.elim
def dIfE (t : DTT) (a b : DTE) : DTE := fun ρ M Q E => t ρ M (fun c M' => if c = true then a ρ M' Q E else b ρ M' Q E) E
/-- the truth of a value -/
def truD (x : D) (Q : Bool → Prop) : Prop := match x with
  | .non => Q false
  | .bl b => Q b
  | .int i => Q (i != 0)
  | .str y => y.length ≤ sizeLine ∧ Q ((y.length : Int) != 0)
  | .lst xs => Q (!xs.isEmpty)
  | .tup xs => Q (!xs.isEmpty)
  | _ => False
def dTru (T : DTE) : DTT := fun ρ M Q E => T ρ M (fun x M' => truD (drf M' x) fun b => Q b M') E
theorem isE_of {B : Bx} {F : Hp} {vs : List V} {ds : List D} (h : RpAll B F vs ds) : vs.isEmpty = ds.isEmpty := by cases h <;> rfl
theorem truD_of {x : D} {Q : Bool → Prop} (h : truD x Q) : (x = .non ∧ Q false) ∨ (∃ b, x = .bl b ∧ Q b) ∨ (∃ i, x = .int i ∧ Q (i != 0)) ∨ (∃ y, x = .str y ∧ y.length ≤ sizeLine ∧ Q ((y.length : Int) != 0)) ∨ (∃ xs, x = .lst xs ∧ Q (!xs.isEmpty)) ∨ (∃ xs, x = .tup xs ∧ Q (!xs.isEmpty)) := by
  unfold truD at h
  split at h
  · exact .inl ⟨rfl, h⟩
  · exact .inr (.inl ⟨_, rfl, h⟩)
  · exact .inr (.inr (.inl ⟨_, rfl, h⟩))
  · exact .inr (.inr (.inr (.inl ⟨_, rfl, h.1, h.2⟩)))
  · exact .inr (.inr (.inr (.inr (.inl ⟨_, rfl, h⟩))))
  · exact .inr (.inr (.inr (.inr (.inr ⟨_, rfl, h⟩))))
  · exact h.elim
theorem dt_tru (ha : DR X wx a Ta) (he : ∀ whole, isTrue a X.env whole = (do let v ← whole; standAt a.pos; holding [v] (truthy v)) := by intro _; rfl) : DT X wx a (dTru Ta) := by
  obtain ⟨t, p, r⟩ := ha
  refine ⟨_, pt_truth p he, fun W0 W m σ ρ M Q Qd Ed R k h1 h2 h3 => r W0 W m σ ρ M _ _ Ed R k h1 (fun d v W' m' M' q le k' hv => ?_) h3⟩
  have hv := hv.drf k'
  have ok := W'.ok.trans (cat_ex W'.H m')
  rcases truD_of q with ⟨e, q⟩ | ⟨b, e, q⟩ | ⟨i, e, q⟩ | ⟨y, e, hz, q⟩ | ⟨xs, e, q⟩ | ⟨xs, e, q⟩ <;> rw [e] at hv
  · cases hv; exact ⟨_, rfl, h2 _ W' m' M' q le k'⟩
  · cases hv; exact ⟨_, rfl, h2 _ W' m' M' q le k'⟩
  · cases hv; exact ⟨_, rfl, h2 _ W' m' M' q le k'⟩
  · cases hv; exact ⟨_, ⟨hz, rfl⟩, h2 _ W' m' M' q le k'⟩
  · obtain ⟨a, vs, rfl, h4, h5⟩ := hv; exact ⟨_, .inl ⟨vs, h4, rfl⟩, by rw [isE_of h5]; exact h2 _ W' m' M' q le k'⟩
  · cases hv with
    | tup h4 h5 => exact ⟨_, .inr (.inl ⟨_, Evl.ex_t ok h4, rfl⟩), by rw [isE_of h5]; exact h2 _ W' m' M' q le k'⟩
end
end Z

namespace Z
open PySem PySem.Spec PyProof.Rows L2
open Evl (Ex)
section
variable {X : Cx} {wx : WX} {e a b c : Expr} {es rest : List Expr} {T Ta Tb Tc : DTE} {pos : Pos} {U U' : DTT}

/-! ### subscripts -/
/-- a[i] of a list, a tuple, a text -/
def oIx (x y : D) (Q : D → Prop) : Prop := match x, y with
  | .lst xs, .int i => ∃ d, atI xs i = some d ∧ Q d
  | .tup xs, .int i => ∃ d, atI xs i = some d ∧ Q d
  | .str z, .int i => z.length ≤ sizeLine ∧ ∃ c, atI z.cps.toList i = some c ∧ Q (.str ⟨#[c]⟩)
  | .dic t ks, k => kOkB t k = true ∧ ∃ d, getK ks k = some d ∧ Q d
  | _, _ => False
theorem atI_of {B : Bx} {F : Hp} {vs : List V} {ds : List D} (h : RpAll B F vs ds) {i : Int} {d : D} (e : atI ds i = some d) : ∃ v, atI vs i = some v ∧ Rp B F v d := by
  unfold atI at e ⊢
  rw [h.length]
  cases q : ixN ds.length i with
  | none => rw [q] at e; cases e
  | some j => rw [q] at e; exact h.get e
theorem rf_ix {B : Bx} : RfO B (fun x y H Q => rIx B.K x y H Q ∨ rIxX B x y H Q) oIx := by
  intro W m M x y dx dy Q Qd mk rx ry h k
  have ok := W.ok.trans (cat_ex W.H m)
  unfold oIx at h
  split at h
  · obtain ⟨d, e, q⟩ := h
    obtain ⟨a, vs, rfl, h1, h2⟩ := rx
    cases ry
    obtain ⟨v, e', r⟩ := atI_of h2 e
    exact .inl (.inl ⟨a, vs, _, v, rfl, rfl, h1, e', k _ _ W q (Wd.le.refl W) mk r⟩)
  · obtain ⟨d, e, q⟩ := h
    cases rx with
    | tup h1 h2 =>
      cases ry
      obtain ⟨v, e', r⟩ := atI_of h2 e
      exact .inl (.inr (.inl ⟨_, _, _, v, rfl, rfl, Evl.ex_t ok h1, e', k _ _ W q (Wd.le.refl W) mk r⟩))
  · obtain ⟨hz, c, e, q⟩ := h
    cases rx
    cases ry
    exact .inl (.inr (.inr ⟨_, _, c, rfl, rfl, hz, e, k _ _ W q (Wd.le.refl W) mk (.str _)⟩))
  · obtain ⟨ko, d, hg, q⟩ := h
    obtain ⟨a, rfl, h1⟩ := rx
    exact .inr ⟨W.F, a, _, _, _, d, ok, rfl, h1, ry.key ko, ko, hg, fun v rv => k _ _ W q (Wd.le.refl W) mk rv⟩
  · exact h.elim
theorem de_ix {j : Nat} (hr : Room j X.A) (ha : DR X wx a Ta) (hb : DR X wx b Tb) (hs : PlainIx b := by exact fun _ _ => rfl) : DE X wx (.Subscript a b pos) (dOp oIx Ta Tb) := by
  obtain ⟨ta, pa, ra⟩ := ha
  obtain ⟨tb, pb, rb⟩ := hb
  exact ⟨_, pe_ix (ix_seq.or (ix_dic hr)) pa pb hs, rf_op ra rb rf_ix⟩

/-! ### slices -/
abbrev DTO := List Ent → Mu → (Option Int → Mu → Prop) → (Str → Mu → Prop) → Prop
def RfP (B : Bx) (wx : WX) (t : TO) (T : DTO) : Prop := ∀ (W0 W : Wd) (m : Hp) (σ : L2.St) (ρ : List Ent) (M : Mu) (Q : Option Int → Hp → Prop) (Qd : Option Int → Mu → Prop) (Ed : Str → Mu → Prop), Rel B W0 W σ ρ → MOk B W M m → T ρ M Qd Ed →
  (∀ o W' m' M', Qd o M' → W.le W' → MOk B W' M' m' → Q o (cat W'.H m')) → ExK B wx W σ Ed → t σ (cat W.H m) Q
def DO (X : Cx) (wx : WX) (e : Option Expr) (T : DTO) : Prop := ∃ t, PO X e t ∧ RfP (bx X) wx t T
def dONone : DTO := fun _ M Q _ => Q none M
def dOSome (T : DTE) : DTO := fun ρ M Q E => T ρ M (fun x M' => match x with | .int i => Q (some i) M' | _ => False) E
theorem do_none : DO X wx none dONone := ⟨_, po_none, fun W0 W m σ ρ M Q Qd Ed R k h1 h2 h3 => h2 none W m M h1 (Wd.le.refl W) k⟩
theorem do_some (he : DR X wx e T) : DO X wx (some e) (dOSome T) := by
  obtain ⟨t, p, r⟩ := he
  refine ⟨_, po_some p, fun W0 W m σ ρ M Q Qd Ed R k h1 h2 h3 => r W0 W m σ ρ M _ _ Ed R k h1 (fun d v W' m' M' q le k' hv => ?_) h3⟩
  cases d with
  | int i => cases hv; exact ⟨i, rfl, h2 _ W' m' M' q le k'⟩
  | _ => exact q.elim
def cutD (xs : List D) (lo hi : Option Int) : List D := (xs.drop (HT.sIx xs.length 0 lo)).take (HT.sIx xs.length xs.length hi - HT.sIx xs.length 0 lo)
theorem cut_of {B : Bx} {F : Hp} {vs : List V} {ds : List D} (h : RpAll B F vs ds) (lo hi : Option Int) : RpAll B F (cutV vs lo hi) (cutD ds lo hi) := by
  unfold cutV cutD
  rw [h.length]
  exact (h.drop _).take _
variable {lo hi : Option Expr} {p2 : Pos} {Tl Th : DTO}
/-- of a list: a new one -/
def oSlL (x : D) (i j : Option Int) (Q : List D → Prop) : Prop := match x with | .lst xs => Q (cutD xs i j) | _ => False
def dSlL (T : DTE) (l h : DTO) : DTA := fun ρ M Q E => T ρ M (fun x M1 => l ρ M1 (fun i M2 => h ρ M2 (fun j M3 => oSlL (drf M3 x) i j fun ds => Q ds M3) E) E) E
/-- of a text or a tuple -/
def oSlS (x : D) (i j : Option Int) (Q : D → Prop) : Prop := match x with
  | .str z => z.length ≤ sizeLine ∧ Q (.str (cutS z i j))
  | .tup xs => Q (.tup (cutD xs i j))
  | .lst xs => Q (.lst (cutD xs i j))
  | _ => False
theorem oSlS_of {x : D} {i j : Option Int} {Q : D → Prop} (h : oSlS x i j Q) : (∃ z, x = .str z ∧ z.length ≤ sizeLine ∧ Q (.str (cutS z i j))) ∨ (∃ xs, x = .tup xs ∧ Q (.tup (cutD xs i j))) ∨ ∃ xs, x = .lst xs ∧ Q (.lst (cutD xs i j)) := by
  unfold oSlS at h
  split at h
  · exact .inl ⟨_, rfl, h.1, h.2⟩
  · exact .inr (.inl ⟨_, rfl, h⟩)
  · exact .inr (.inr ⟨_, rfl, h⟩)
  · exact h.elim
def dSlS (T : DTE) (l h : DTO) : DTE := fun ρ M Q E => T ρ M (fun x M1 => l ρ M1 (fun i M2 => h ρ M2 (fun j M3 => oSlS (drf M3 x) i j fun d => Q d M3) E) E) E
theorem cut_whole (xs : List D) (lo hi : Option Int) (h : HT.sIx xs.length 0 lo = 0 ∧ HT.sIx xs.length xs.length hi = xs.length) : cutD xs lo hi = xs := by
  unfold cutD
  rw [h.1, h.2]
  simp
theorem de_sl (he : DR X wx e T) (hl : DO X wx lo Tl) (hh : DO X wx hi Th) : DE X wx (.Subscript e (.Slice lo hi none p2) pos) (dSlS T Tl Th) := by
  obtain ⟨t, p, r⟩ := he
  obtain ⟨tl, pl, rl⟩ := hl
  obtain ⟨th, ph, rh⟩ := hh
  refine ⟨_, pe_slice (sl_str.or (sl_tupA.or sl_list)) p pl ph, fun W0 W m σ ρ M Q Qd Ed R k h1 h2 h3 => r W0 W m σ ρ M _ _ Ed R k h1 (fun d v W' m' M' q le k' hv => ?_) h3⟩
  refine rl W0 W' m' σ ρ M' _ _ Ed (R.mono le) k' q (fun i W2 m2 M2 q2 le2 k2 => ?_) (h3.up le)
  refine rh W0 W2 m2 σ ρ M2 _ _ Ed (R.mono (le.trans le2)) k2 q2 (fun j W3 m3 M3 q3 le3 k3 => ?_) (h3.up (le.trans le2))
  have hv := (hv.le (le2.trans le3)).drf k3
  have l3 := (le.trans le2).trans le3
  rcases oSlS_of q3 with ⟨z, e, hz, q3⟩ | ⟨xs, e, q3⟩ | ⟨xs, e, q3⟩ <;> rw [e] at hv
  · cases hv; exact .inl ⟨z, rfl, hz, h2 _ _ W3 m3 M3 q3 l3 k3 (.str _)⟩
  · cases hv with
    | tup s1 r1 =>
      rename_i a vs
      refine .inr (.inl ⟨a, vs, rfl, Evl.ex_t (W3.ok.trans (cat_ex W3.H m3)) s1, fun z => ?_, fun z p hp => ?_⟩)
      · rw [r1.length] at z
        rw [cut_whole xs i j z] at q3
        exact h2 _ _ W3 m3 M3 q3 l3 k3 (.tup s1 r1)
      · exact newT k3 hp (cut_of r1 i j) fun W4 l4 k4 r4 => h2 _ _ W4 m3 M3 q3 (l3.trans l4) k4 r4
  · obtain ⟨a1, vs1, rfl, s1, r1⟩ := hv
    exact .inr (.inr ⟨a1, vs1, rfl, s1, fun p hp => newL k3 hp (cut_of r1 i j) fun W4 l4 k4 r4 => h2 _ _ W4 m3 M3 q3 (l3.trans l4) k4 r4⟩)

/-! ### built-in calls -/
def dCB (o : List D → (D → Prop) → Prop) (R : DTA) : DTE := fun ρ M Q E => R ρ M (fun ds M' => o (ds.map (drf M')) fun d => Q d M') E
def RfC (B : Bx) (r : List V → Hp → VK → Prop) (o : List D → (D → Prop) → Prop) : Prop := ∀ (W : Wd) (m : Hp) (M : Mu) (vs : List V) (ds : List D) (Q : VK) (Qd : D → Prop), MOk B W M m → RpRs B W.F (cat W.H m) vs ds → o ds Qd →
  (∀ d v W', Qd d → W.le W' → MOk B W' M m → Rp B W'.F v d → Q v (cat W'.H m)) → r vs (cat W.H m) Q
theorem rf_cb {B : Bx} {ms : List Bool} {t : TA} {R : DTA} {r : List V → Hp → VK → Prop} {o : List D → (D → Prop) → Prop} (h : RfM B wx ms t R) (hr : RfC B r o) : RfE B wx (tCB r t) (dCB o R) := fun W0 W m σ ρ M Q Qd Ed Re k h1 h2 h3 => by
  refine h W0 W m σ ρ M _ _ Ed Re k h1 (fun ds vs W' m' M' q le k' hv => ?_) h3
  exact hr W' m' M' vs _ Q _ k' (hv.reads k') q fun d v W'' q2 le2 k2 hv2 => h2 d v W'' m' M' q2 (le.trans le2) k2 hv2
theorem de_callB {x : Str} {id : String} {r : List V → Hp → VK → Prop} {o : List D → (D → Prop) → Prop} {ms : List Bool} {R : DTA} {p : Pos} (hc : CallR X (.builtin id) r) (hr : RfC (bx X) r o) (hm : X.mg x = none) (ha : DM X wx ms (e :: es) R) (hg : Gl X x := by rfl) (hv : bootBuiltins x = some (.builtin id) := by decide +kernel) (hn : x ≠ "__name__" := by decide) (hdb : (x == ("__debug__" : Str)) = false := by decide)
    (he : starEach (e :: es) X.env = (false, eval e X.env) :: starEach es X.env := by rfl) (hpl : (backTo pos (starEach es X.env)).any (·.1) = false := by rfl) : DE X wx (.Call (.Name x p) (e :: es) [] pos) (dCB o R) := by
  obtain ⟨t, pa, ra⟩ := ha
  exact ⟨_, pe_callB hc hg hm hv pa hn hdb he hpl, rf_cb ra hr⟩
theorem de_callTy {x : Str} {T : String} {r : List V → Hp → VK → Prop} {o : List D → (D → Prop) → Prop} {ms : List Bool} {R : DTA} {p : Pos} (hc : CallR X (.type T) r) (hr : RfC (bx X) r o) (hm : X.mg x = none) (ha : DM X wx ms (e :: es) R) (hg : Gl X x := by rfl) (hv : bootBuiltins x = some (.type T) := by decide +kernel) (hn : x ≠ "__name__" := by decide) (hdb : (x == ("__debug__" : Str)) = false := by decide)
    (he : starEach (e :: es) X.env = (false, eval e X.env) :: starEach es X.env := by rfl) (hpl : (backTo pos (starEach es X.env)).any (·.1) = false := by rfl) : DE X wx (.Call (.Name x p) (e :: es) [] pos) (dCB o R) := by
  obtain ⟨t, pa, ra⟩ := ha
  exact ⟨_, pe_callTy hc hg hm hv pa hn hdb he hpl, rf_cb ra hr⟩
theorem CallR.or {f : Value} {r r' : List V → Hp → VK → Prop} (h : CallR X f r) (h' : CallR X f r') : CallR X f (fun x H Q => r x H Q ∨ r' x H Q) := by
  intro pins s σ H xs us Q I r q
  rcases q with q | q
  · exact h pins s σ H xs us Q I r q
  · exact h' pins s σ H xs us Q I r q
def oAbs (ds : List D) (Q : D → Prop) : Prop := match ds with
  | [.int i] => Q (.int (if i < 0 then -i else i))
  | _ => False
theorem rf_abs {B : Bx} : RfC B (fun xs H Q => ∃ i, xs = [.int i] ∧ Q (.int (if i < 0 then -i else i)) H) oAbs := by
  intro W m M vs ds Q Qd mk rs h k
  have ok := W.ok.trans (cat_ex W.H m)
  unfold oAbs at h
  split at h
  · cases rs with
    | cons r t => cases t; cases r; exact ⟨_, rfl, k _ _ W h (Wd.le.refl W) mk (.int _)⟩
  · exact h.elim
def oMax2 (ds : List D) (Q : D → Prop) : Prop := match ds with
  | [.int i, .int j] => Q (.int (if j > i then j else i))
  | _ => False
def oMin2 (ds : List D) (Q : D → Prop) : Prop := match ds with
  | [.int i, .int j] => Q (.int (if j < i then j else i))
  | _ => False
def oLen (ds : List D) (Q : D → Prop) : Prop := match ds with
  | [.str y] => y.length ≤ sizeLine ∧ Q (.int y.length)
  | [.lst xs] => Q (.int xs.length)
  | [.tup xs] => Q (.int xs.length)
  | [.dic _ ks] => Q (.int ks.length)
  | _ => False
theorem call_lenA : CallR X (.builtin "len") (fun xs H Q => (∃ x n, xs = [x] ∧ LenV X.K x H n ∧ Q (.int n) H) ∨ rLenX (bx X) xs H Q) := CallR.or call_len call_lenX
theorem rf_len {B : Bx} : RfC B (fun xs H Q => (∃ x n, xs = [x] ∧ LenV B.K x H n ∧ Q (.int n) H) ∨ rLenX B xs H Q) oLen := by
  intro W m M vs ds Q Qd mk rs h k
  have ok := W.ok.trans (cat_ex W.H m)
  unfold oLen at h
  split at h
  · cases rs with
    | cons r t => cases t; cases r; exact .inl ⟨_, _, rfl, ⟨h.1, rfl⟩, k _ _ W h.2 (Wd.le.refl W) mk (.int _)⟩
  · cases rs with
    | cons r t =>
      cases t
      obtain ⟨a, vs, rfl, h1, h2⟩ := r
      exact .inl ⟨_, _, rfl, .inl ⟨vs, h1, rfl⟩, by rw [h2.length]; exact k _ _ W h (Wd.le.refl W) mk (.int _)⟩
  · cases rs with
    | cons r t =>
      cases t
      cases r with
      | tup h1 h2 => exact .inl ⟨_, _, rfl, .inr ⟨_, Evl.ex_t ok h1, rfl⟩, by rw [h2.length]; exact k _ _ W h (Wd.le.refl W) mk (.int _)⟩
  · cases rs with
    | cons r t =>
      cases t
      obtain ⟨a, rfl, h1⟩ := r
      exact .inr ⟨W.F, a, _, _, ok, rfl, h1, k _ _ W h (Wd.le.refl W) mk (.int _)⟩
  · exact h.elim
/-- int(x) of an int, a truth, a text of figures -/
def oInt1 (ds : List D) (Q : D → Prop) : Prop := match ds with
  | [.int i] => Q (.int i)
  | [.bl k] => Q (.int (if k then 1 else 0))
  | [.str a] => ∃ n, PySem.intText? a = some n ∧ a.length ≤ 640 ∧ Q (.int n)
  | _ => False
theorem rf_int1 {B : Bx} : RfC B (fun xs H Q => ((∃ i, xs = [.int i] ∧ Q (.int i) H) ∨ ∃ k, xs = [.bl k] ∧ Q (.int (if k then 1 else 0)) H) ∨ ∃ a n, xs = [.str a] ∧ PySem.intText? a = some n ∧ a.length ≤ 640 ∧ Q (.int n) H) oInt1 := by
  intro W m M vs ds Q Qd mk rs h k
  have ok := W.ok.trans (cat_ex W.H m)
  unfold oInt1 at h
  split at h
  · cases rs with
    | cons r t => cases t; cases r; exact .inl (.inl ⟨_, rfl, k _ _ W h (Wd.le.refl W) mk (.int _)⟩)
  · cases rs with
    | cons r t => cases t; cases r; exact .inl (.inr ⟨_, rfl, k _ _ W h (Wd.le.refl W) mk (.int _)⟩)
  · cases rs with
    | cons r t =>
      cases t; cases r
      obtain ⟨n, e1, e2, q⟩ := h
      exact .inr ⟨_, n, rfl, e1, e2, k _ _ W q (Wd.le.refl W) mk (.int _)⟩
  · exact h.elim
theorem call_intA : CallR X (.type "int") (fun xs H Q => ((∃ i, xs = [.int i] ∧ Q (.int i) H) ∨ ∃ k, xs = [.bl k] ∧ Q (.int (if k then 1 else 0)) H) ∨ ∃ a n, xs = [.str a] ∧ PySem.intText? a = some n ∧ a.length ≤ 640 ∧ Q (.int n) H) := CallR.or call_int1 call_int_str
def oStr1 (ds : List D) (Q : D → Prop) : Prop := match ds with
  | [.int i] => i.natAbs.log2 < 1920 ∧ Q (.str (toString i))
  | _ => False
theorem rf_str1 {B : Bx} : RfC B (fun xs H Q => ∃ i, xs = [.int i] ∧ i.natAbs.log2 < 1920 ∧ Q (.str (toString i)) H) oStr1 := by
  intro W m M vs ds Q Qd mk rs h k
  have ok := W.ok.trans (cat_ex W.H m)
  unfold oStr1 at h
  split at h
  · cases rs with
    | cons r t => cases t; cases r; exact ⟨_, rfl, h.1, k _ _ W h.2 (Wd.le.refl W) mk (.str _)⟩
  · exact h.elim
/-- isinstance(x, a built-in class) -/
def tyS : D → Option String
  | .non => some "NoneType"
  | .bl _ => some "bool"
  | .int _ => some "int"
  | .str _ => some "str"
  | .lst _ => some "list"
  | .tup _ => some "tuple"
  | _ => none
theorem tyX_of {B : Bx} {F H : Hp} (ok : Ex F H) {v : V} {d : D} {n : String} (h : RpR B F H v d) (e : tyS d = some n) : TyX B.K H v (.type n) := by
  cases d with
  | non => cases h; cases e; exact .base .non
  | bl b => cases h; cases e; exact .base (.bl b)
  | int b => cases h; cases e; exact .base (.int b)
  | str b => cases h; cases e; exact .base (.str b)
  | lst ds =>
    cases e
    obtain ⟨a, vs, rfl, h1, h2⟩ := h
    rcases h1 with (h1 | ⟨o, h1⟩) | ⟨o, its, n, h1, h2, _⟩
    · exact .base (.lst h1)
    · exact .base (.frz h1)
    · exact .kList h1 h2
  | tup ds =>
    cases e
    cases h with
    | tup h1 h2 =>
      rcases Evl.ex_t ok h1 with (h1 | ⟨o, h1⟩) | ⟨o, its, n, h1, h2, _⟩
      · exact .base (.tup h1)
      · exact .fTuple h1
      · exact .kTuple h1 h2
  | _ => cases e
def isD (n : String) (d : D) : Bool := match tyS d with
  | some m => m == n || (m == "bool" && n == "int")
  | none => false
def oIsi (n : String) (ds : List D) (Q : D → Prop) : Prop := match ds with
  | [d, .ty m] => m = n ∧ (tyS d).isSome = true ∧ Q (.bl (isD n d))
  | _ => False
theorem rf_isi {B : Bx} {n : String} (hn : ∀ m, m = "NoneType" ∨ m = "bool" ∨ m = "int" ∨ m = "str" ∨ m = "list" ∨ m = "tuple" → kitB m n = some (m == n || (m == "bool" && n == "int"))) : RfC B (rIsi B.K) (oIsi n) := by
  intro W m M vs ds Q Qd mk rs h k
  have ok := W.ok.trans (cat_ex W.H m)
  unfold oIsi at h
  split at h
  · rename_i d m
    obtain ⟨rfl, h1, q⟩ := h
    cases rs with
    | cons r t =>
      cases t with
      | cons r2 t =>
        cases t
        cases r2
        cases z : tyS d with
        | none => rw [z] at h1; cases h1
        | some mm =>
          refine ⟨_, _, .type mm, .type m, isD m d, rfl, .ty m, tyX_of ok r z, kit_ty ?_, k _ _ W q (Wd.le.refl W) mk (.bl _)⟩
          have : isD m d = (mm == m || (mm == "bool" && m == "int")) := by unfold isD; rw [z]
          rw [this]
          refine hn mm ?_
          cases d <;> cases z <;> simp
  · exact h.elim
theorem isi_tuple : ∀ m, m = "NoneType" ∨ m = "bool" ∨ m = "int" ∨ m = "str" ∨ m = "list" ∨ m = "tuple" → kitB m "tuple" = some (m == "tuple" || (m == "bool" && "tuple" == "int")) := by
  rintro m (rfl | rfl | rfl | rfl | rfl | rfl) <;> decide +kernel
theorem isi_str : ∀ m, m = "NoneType" ∨ m = "bool" ∨ m = "int" ∨ m = "str" ∨ m = "list" ∨ m = "tuple" → kitB m "str" = some (m == "str" || (m == "bool" && "str" == "int")) := by
  rintro m (rfl | rfl | rfl | rfl | rfl | rfl) <;> decide +kernel
/-- tuple(x) of a list or a tuple -/
def oTuple1 (ds : List D) (Q : D → Prop) : Prop := match ds with
  | [.lst xs] => Q (.tup xs)
  | [.tup xs] => Q (.tup xs)
  | _ => False
theorem rf_tuple1 {B : Bx} : RfC B (fun xs H Q => ∃ p ys, xs = [.ref p] ∧ ((SqL B.K H p ys ∧ ∀ l, H l = none → Q (.ref l) (upd H l (.tup ys))) ∨ (SqT B.K H p ys ∧ Q (.ref p) H))) oTuple1 := by
  intro W m M vs ds Q Qd mk rs h k
  have ok := W.ok.trans (cat_ex W.H m)
  unfold oTuple1 at h
  split at h
  · cases rs with
    | cons r t =>
      cases t
      obtain ⟨a, vs, rfl, h1, h2⟩ := r
      exact ⟨a, vs, rfl, .inl ⟨h1, fun l hl => newT mk hl h2 fun W' le mk' r => k _ _ W' h le mk' r⟩⟩
  · cases rs with
    | cons r t =>
      cases t
      cases r with
      | tup h1 h2 => exact ⟨_, _, rfl, .inr ⟨Evl.ex_t ok h1, k _ _ W h (Wd.le.refl W) mk (.tup h1 h2)⟩⟩
  · exact h.elim
/-- list(x) of a list or a tuple: a new one -/
def oList1 (ds : List D) (Q : List D → Prop) : Prop := match ds with
  | [.lst xs] => Q xs
  | [.tup xs] => Q xs
  | _ => False
theorem oList1_of {ds : List D} {Q : List D → Prop} (h : oList1 ds Q) : (∃ xs, ds = [.lst xs] ∧ Q xs) ∨ ∃ xs, ds = [.tup xs] ∧ Q xs := by
  unfold oList1 at h
  split at h
  · exact .inl ⟨_, rfl, h⟩
  · exact .inr ⟨_, rfl, h⟩
  · exact h.elim
def dList1 (R : DTA) : DTA := fun ρ M Q E => R ρ M (fun ds M' => oList1 (ds.map (drf M')) fun xs => Q xs M') E
theorem dn_list {ms : List Bool} {R : DTA} {p : Pos} (hm : X.mg "list" = none) (ha : DM X wx ms [e] R) (hg : Gl X "list" := by rfl)
    (he : starEach (e :: []) X.env = (false, eval e X.env) :: starEach [] X.env := by rfl) (hpl : (backTo pos (starEach [] X.env)).any (·.1) = false := by rfl) : DN X wx (.Call (.Name "list" p) [e] [] pos) (dList1 R) := by
  obtain ⟨t, pa, ra⟩ := ha
  refine ⟨_, pe_callTy call_list_of hg hm (by decide +kernel) pa (by decide) (by decide) he hpl, fun W0 W m σ ρ M Q Qd Ed Re k h1 h2 h3 => ra W0 W m σ ρ M _ _ Ed Re k h1 (fun ds vs W' m' M' q le k' hv => ?_) h3⟩
  have hr := hv.reads k'
  have ok := W'.ok.trans (cat_ex W'.H m')
  rcases oList1_of q with ⟨xs, e, q⟩ | ⟨xs, e, q⟩ <;> rw [e] at hr
  · cases hr with
    | cons r t =>
      cases t
      obtain ⟨a, vs, rfl, s1, s2⟩ := r
      exact ⟨a, vs, rfl, .inl s1, fun l hl => newO le k' hl s2 fun W4 l4 k4 h4 h5 h6 h7 => h2 _ l _ W4 m' M' q l4 k4 h4 h5 h6 h7⟩
  · cases hr with
    | cons r t =>
      cases t
      cases r with
      | tup s1 s2 => exact ⟨_, _, rfl, .inr (Evl.ex_t ok s1), fun l hl => newO le k' hl s2 fun W4 l4 k4 h4 h5 h6 h7 => h2 _ l _ W4 m' M' q l4 k4 h4 h5 h6 h7⟩
end
end Z

/-! enumerate of a tuple -/
namespace Z
open PySem L2
open Evl (Ex)

theorem mk_enumT (tp : Addr) (its : Array Value) (n : Nat) (dc : Option Addr) (sl : Array (Option Value)) :
    Meets (Builtin.«enumerate.__new__» ⟨[.type "enumerate", .ref tp], []⟩) (fun _ R s => s.heap.get? tp = some { cls := .type "tuple", dict := dc, data := .seq its n, slots := sl } ∧
      R (.ok (.ret (.ref (s.heap.push { cls := .type "tuple_iterator", data := .fields #[.ref tp, .int 0 0] }).objs.size)))
        { s with heap := (s.heap.push { cls := .type "tuple_iterator", data := .fields #[.ref tp, .int 0 0] }).push { cls := .type "enumerate", data := .fields #[.none, .bool false, .ref s.heap.objs.size, rawInt 0, .none, .none] } }) :=
  .of_wp fun prog w A R s ⟨htp, h⟩ => by
    obtain ⟨hp, g, d, tk, os⟩ := s
    have hs := sub_enumerate
    have hT : Heap.IsTuple (Shared.heap ⟨hp, g, d, tk, os⟩) tp its := ⟨_, htp, rfl, n, rfl⟩
    wp_walk using AutoSeq1.wpAny_loadPart' htp
    refine wpAny_stack_any fun st => wpAny_pure ?_
    split
    · rename_i c _ _ _ _ _
      cases (c == Value.type "enumerate") <;> (wp_walk using AutoSeq1.wpAny_loadPart' htp, wpAny_pyIter_tuple hT; exact ⟨_, rfl, h⟩)
    · wp_walk using AutoSeq1.wpAny_loadPart' htp, wpAny_pyIter_tuple hT
      exact ⟨_, rfl, h⟩
/-- what enumerate(tuple) leaves: the pair of iterators -/
theorem enumT_made {P : Program} {w : World} {A : Around} {Er : Value → Shared → Prop} {s : Shared} {tp : Addr} {its : Array Value} {R : Value → Shared → Prop} (hT : s.heap.IsTuple tp its)
    (go : ∀ h2, IsEnum h2 (s.heap.objs.size + 1) s.heap.objs.size 0 .none → h2.IsTupleIter s.heap.objs.size tp 0 →
      (∀ b o, s.heap.get? b = some o → h2.get? b = some o) → R (.ref (s.heap.objs.size + 1)) { s with heap := h2 }) : wpAny (model P w) A (call (.type "enumerate") [.ref tp]) R Er s := by
  obtain ⟨⟨c, dc, dt, sl⟩, h0, h1, n, h2⟩ := hT
  have h1 : c = .type "tuple" := h1
  have h2 : dt = .seq its n := h2
  subst h1 h2
  refine callType_new F.called_enumerate (by decide) (F.typeCall_enumerate_1 _) (F.newCall_enumerate_1 _) (fun ob => F.args_object_init_2 ob _) F.entry_enumerate_new (mk_enumT tp its n dc sl) ⟨h0, ?_⟩
  have z : (s.heap.push { cls := .type "tuple_iterator", data := .fields #[.ref tp, .int 0 0] }).objs.size = s.heap.objs.size + 1 := Heap.size_push ..
  show _ ∧ _
  rw [z]
  have e : IsEnum ((s.heap.push { cls := .type "tuple_iterator", data := .fields #[.ref tp, .int 0 0] }).push
      { cls := .type "enumerate", data := .fields #[.none, .bool false, .ref s.heap.objs.size, rawInt 0, .none, .none] }) (s.heap.objs.size + 1) s.heap.objs.size 0 .none := by
    have q := Heap.get?_push_size (s.heap.push { cls := .type "tuple_iterator", data := .fields #[.ref tp, .int 0 0] }) (o := { cls := .type "enumerate", data := .fields #[.none, .bool false, .ref s.heap.objs.size, rawInt 0, .none, .none] }) rfl
    rw [z] at q; exact q
  exact ⟨⟨_, e, rfl⟩, go _ e ⟨_, Heap.get?_push_of_some _ (Heap.get?_push_size _ rfl), rfl, rfl⟩ fun b o q => Heap.get?_push_of_some _ (Heap.get?_push_of_some _ q)⟩
/-- the tuple at a, each item in a new pair -/
def IteT (K : PySem.W.Frag) (a : Addr) : It where
  go := fun i H => ∃ (xs : List V) (x : V), SqT K H a xs ∧ xs[i]? = some x
  yld := fun i H v H' => ∃ T x, v = .ref T ∧ H T = none ∧ H' = upd H T (.tup [.int (i : Nat), x]) ∧ ∀ xs, SqT K H a xs → xs[i]? = some x
  stop := fun i H => ∃ xs : List V, SqT K H a xs ∧ xs.length ≤ i
theorem tup_ne_it {h : Heap} {a it : Addr} {its : Array Value} {i : Nat} (p : h.IsTuple a its) (q : h.IsTupleIter it a i) : a ≠ it := fun z => by
  subst z
  obtain ⟨o, h1, h2, _⟩ := p
  obtain ⟨o', g1, g2, _⟩ := q
  rw [h1] at g1
  cases g1
  rw [h2] at g2
  exact absurd g2 (by decide)
theorem tup_ne_en {h : Heap} {a e it : Addr} {its : Array Value} {i : Int} {old : Value} (p : h.IsTuple a its) (q : IsEnum h e it i old) : e ≠ a := fun z => by
  subst z
  obtain ⟨o, h1, h2, _⟩ := p
  have g1 : h.get? e = _ := q
  rw [h1] at g1
  cases g1
  injection h2 with h2
  exact absurd h2 (by decide)
theorem enumT_end {P : Program} {w : World} {A : Around} {Er : Value → Shared → Prop} {s : Shared} {e it a : Addr} {its : Array Value} {i : Nat} {old : Value} {R : Option Value → Shared → Prop} (hh : A.handled = none) (he : IsEnum s.heap e it i old) (hit : s.heap.IsTupleIter it a i) (tp : s.heap.IsTuple a its) (hx : its[i]? = none)
    (go : ∀ h2, Heap.ExtBut it s.heap h2 → R none { s with heap := h2 }) : wpAny (model P w) A (pyNext (.ref e)) R Er s := by
  have ty : s.TypeIs (.ref e) "enumerate" := ⟨_, he, rfl⟩
  unfold pyNext
  refine wpAny_bind (wpAny_attempt (wpAny_callSpecial?_slot (name := Str.ofString "__next__") ty F.slot_enumerate_next (wpAny_call_entry F.slot_enumerate_next ty F.entry_enumerate_next ?_ (F.args_enumerate_next_1 _))))
  show wpAny _ _ (field (.ref e) 2 >>= _) _ _ _
  refine wpAny_bind (wpAny_field he rfl (x := .ref it) rfl (wpAny_bind (wpAny_nextOf_tuple_end (show A.in1.handled = none from hh) hit tp hx fun h2 x eb ⟨o, ho, hc⟩ => ?_)))
  exact wpAny_bind (wpAny_isInstance (T := "StopIteration") (b := true) ⟨o, ho, hc⟩ isSubtype_stop (wpAny_pure (go _ eb)))
theorem turn_enumT {P : Program} {w : World} {K : PySem.W.Frag} {elts : List Expr} {kk : Nat} {tpos : Pos} (a e it : Addr) :
    Turn P w K (.Tuple elts kk tpos) (IteT K a) [e, it] e (fun i h => (∃ old, IsEnum h e it ((i : Nat) : Int) old) ∧ h.IsTupleIter it a i ∧ e ≠ it) where
  mem := by simp
  obj := fun i h ⟨⟨old, he⟩, ⟨o, ho, _, hd⟩, _⟩ b hb => by
    rcases (show b = e ∨ b = it by simpa using hb) with rfl | rfl
    · exact ⟨_, he, fun v q => nomatch q⟩
    · exact ⟨o, ho, fun v q => by rw [hd] at q; cases q⟩
  keep := fun i h h' ⟨⟨old, he⟩, hi, hne⟩ k => ⟨⟨old, k e (by simp) _ he⟩, hi.at fun o q => k it (by simp) o q, hne⟩
  item := by
    intro X hP hw hK hc i pins s σ H E I hf st ⟨xs, x, hq, hx⟩
    subst hP hw hK
    obtain ⟨⟨old, he⟩, hit, hne⟩ := st
    obtain ⟨its, rv, tp, _⟩ := I.tuple hq
    have tp : s.heap.IsTuple a its.toArray := tp
    obtain ⟨u, hu, ru⟩ := rv.get hx
    have e_lt : e < s.heap.objs.size := Heap.lt_size he
    have i_lt : it < s.heap.objs.size := by obtain ⟨_, q, _⟩ := hit; exact Heap.lt_size q
    have hil : i < its.toArray.size := by have := (List.getElem?_eq_some_iff.mp hu).1; simpa using this
    have D : Draws X.prog X.w X.A.in1 it [it, a] its.toArray.size (fun i v => its.toArray[i]? = some v) (fun i h => h.IsTupleIter it a i ∧ h.IsTuple a its.toArray) := Draws.tuple (show X.A.in1.handled = none from I.ok.hd hc) it a (tup_ne_it tp hit) its.toArray
    refine wpAny_pyNext_enum_itemD D he ⟨hit, tp⟩ hil hne (by simp only [List.mem_cons, List.not_mem_nil, or_false]; exact fun z => z.elim hne (tup_ne_en tp he)) fun y h1 tk py ho st1 hT _ hk => ?_
    have ey : y = u := by
      have q : its[i]? = some y := by simpa using py
      rw [hu] at q; cases q; rfl
    subst ey
    refine ⟨_, rfl, wpAny_letOwnedTupleGo_enum (s := { s with heap := h1, toks := tk + 1 }) ho fun h2 he2 sb => ?_⟩
    have hT2 : h2.get? s.heap.objs.size = some { cls := .type "tuple", data := .seq #[.int i tk, y] } := (sb.2 _ (Nat.ne_of_gt e_lt)).trans hT
    have nw : ObjOk X.prog X.w (upd H s.heap.objs.size (.tup [.int (i : Nat), x])) h2 s.heap.objs.size (.tup [.int (i : Nat), x]) := ⟨by show 2 ≤ sizeLine; decide, [.int i tk, y], .cons ⟨_, rfl⟩ (.cons ru .nil), ⟨_, hT2, rfl, _, rfl⟩⟩
    have I1 : Inv X pins σ (upd H s.heap.objs.size (.tup [.int (i : Nat), x])) { s with heap := h2, toks := tk + 1 } :=
      I.turnedNew (ch := [e, it]) (fun b ob hb q => (sb.2 b (fun z => hb (by simp [z]))).trans (hk b ob (fun z => hb (by simp [z])) (fun z => hb (by simp [z])) q)) hf (Nat.le_refl _) nw
    refine ⟨.ref s.heap.objs.size, _, I1, rfl, ⟨_, x, rfl, I.hok.fresh (Nat.le_refl _), rfl, fun ys hy => by rw [I.tuple_inj hy hq]; exact hx⟩, ⟨⟨y, by rw [show ((i + 1 : Nat) : Int) = (i : Int) + 1 by omega]; exact he2⟩, st1.1.at fun o q => (sb.2 it (Ne.symm hne)).trans q, hne⟩, fun b hb => ?_⟩
    have b_lt : b < s.heap.objs.size := by
      rcases (show b = e ∨ b = it by simpa using hb) with rfl | rfl
      · exact e_lt
      · exact i_lt
    rw [L2.upd_ne (Nat.ne_of_lt b_lt)]
    exact (hf b hb).1
  done := by
    intro X hP hw hK hc i pins s σ H E I hf st ⟨xs, hq, hx⟩
    subst hP hw hK
    obtain ⟨⟨old, he⟩, hit, hne⟩ := st
    obtain ⟨its, rv, tp, _⟩ := I.tuple hq
    have tp : s.heap.IsTuple a its.toArray := tp
    obtain ⟨f0, f1, f2, f3, f4, f5⟩ := hf it (by simp)
    have hl := rv.length
    exact enumT_end (I.ok.hd hc) he hit tp (by simp; omega) fun h2 eb => ⟨rfl, I.turned (t' := s.toks) (fun b o hb q => eb b o hb q) f0 f1 f3 f4 f5⟩
  self := fun A i s Q E ⟨⟨_, he⟩, _⟩ h => wpAny_pyIter_enum he h
/-- enumerate of a list or of a tuple -/
def iEnumA (K : PySem.W.Frag) (ta : TA) : TI := fun σ H R => ta σ H fun vs H1 => ∃ a xs, vs = [.ref a] ∧ ((SqL K H1 a xs ∧ R (Ite K a) H1) ∨ (SqT K H1 a xs ∧ R (IteT K a) H1))
theorem pi_enumA {X : Cx} {e : Expr} {ta : TA} {p pos tpos : Pos} {elts : List Expr} {kk : Nat} (hg : Gl X "enumerate") (hm : X.mg "enumerate" = none) (ha : PA X [e] ta) (hs : starEach [e] X.env = [(false, eval e X.env)] := by rfl) :
    PI X (.Tuple elts kk tpos) (.Call (.Name "enumerate" p) [e] [] pos) (iEnumA X.K ta) := by
  constructor
  intro pins s σ H R I h
  refine PyProof.Rows.Call_ (ld_blt I hg hm PyProof.Rows.boot_enumerate (PyProof.Rows.callWith_type1 (thn (ha.run pos pins s σ H _ I h) fun us s1 ⟨vs, H1, I1, r1, a, xs, ev, q1⟩ => ?_) hs rfl))
  subst ev
  cases r1 with
  | cons r rr =>
    cases rr
    cases r
    have fp : ∀ b ∈ [s1.heap.objs.size + 1, s1.heap.objs.size], FpOk X pins H1 b := fun b hb => by
      have le : s1.heap.objs.size ≤ b := by
        rcases (show b = s1.heap.objs.size + 1 ∨ b = s1.heap.objs.size by simpa using hb) with z | z <;> rw [z]
        · exact Nat.le_add_right _ _
        · exact Nat.le_refl _
      exact I1.fpOk le (I1.hok.fresh le)
    rcases q1 with ⟨hq, q⟩ | ⟨hq, q⟩
    · obtain ⟨its, rv, pl, hz⟩ := I1.list hq
      refine call_enumerate_list pl.isList fun h2 he hit _ hk => wpAny_pyIter_enum he ?_
      exact ⟨s1.heap.objs.size + 1, _, _, _, H1, rfl, I1.kept (t' := s1.toks) hk, turn_enum a (s1.heap.objs.size + 1) s1.heap.objs.size, ⟨⟨.none, he⟩, hit, Nat.succ_ne_self _⟩, fp, q⟩
    · obtain ⟨its, rv, tp, hz⟩ := I1.tuple hq
      refine enumT_made (show s1.heap.IsTuple a its.toArray from tp) fun h2 he hit hk => wpAny_pyIter_enum he ?_
      exact ⟨s1.heap.objs.size + 1, _, _, _, H1, rfl, I1.kept (t' := s1.toks) hk, turn_enumT a (s1.heap.objs.size + 1) s1.heap.objs.size, ⟨⟨.none, he⟩, hit, Nat.succ_ne_self _⟩, fp, q⟩
end Z

namespace Z
open PySem PySem.Spec PyProof.Rows L2
open Evl (Ex)

/-! ### statements -/
structure EndsOk (B : Bx) (wx : WX) (W0 : Wd) (D : Ends) (DD : DEnds) : Prop where
  nx : ∀ W m σ ρ M, Rel B W0 W σ ρ → MOk B W M m → DD.nx ρ M → D.nx σ (cat W.H m)
  rt : ∀ d v W m M, W0.le W → MOk B W M m → Rp B W.F v d → DD.rt d M → D.rt v (cat W.H m)
  bk : ∀ W m σ ρ M, Rel B W0 W σ ρ → MOk B W M m → DD.bk ρ M → D.bk σ (cat W.H m)
  ct : ∀ W m σ ρ M, Rel B W0 W σ ρ → MOk B W M m → DD.ct ρ M → D.ct σ (cat W.H m)
  ex : ∀ C W m σ ρ M, Rel B W0 W σ ρ → MOk B W M m → DD.ex C ρ M → wx (.ref (B.cl C)) none σ (cat W.H m)
def RfS (B : Bx) (wx : WX) (t : TS) (T : DTS) : Prop := ∀ (W0 W : Wd) (m : Hp) (σ : L2.St) (ρ : List Ent) (M : Mu) (D : Ends) (DD : DEnds), Rel B W0 W σ ρ → MOk B W M m → T DD ρ M → EndsOk B wx W0 D DD → t D σ (cat W.H m)
def DS (X : Cx) (wx : WX) (st : Stmt) (T : DTS) : Prop := ∃ t, PS X st t ∧ RfS (bx X) wx t T
def DSs (X : Cx) (wx : WX) (st : List Stmt) (T : DTS) : Prop := ∃ t, PSs X st t ∧ RfS (bx X) wx t T

section
variable {X : Cx} {wx : WX} {e a b c : Expr} {es : List Expr} {T Ta Tb Tc : DTE} {pos : Pos} {U U' : DTT} {st : Stmt} {rest body : List Stmt} {S S' : DTS}
def dNext : DTS := fun DD ρ M => DD.nx ρ M
def dSeq (S S' : DTS) : DTS := fun DD ρ M => S { DD with nx := S' DD } ρ M
theorem dss_nil : DSs X wx [] dNext := ⟨_, pss_nil, fun W0 W m σ ρ M D DD R mk h k => k.nx W m σ ρ M R mk h⟩
theorem dss_cons (h1 : DS X wx st S) (h2 : DSs X wx rest S') : DSs X wx (st :: rest) (dSeq S S') := by
  obtain ⟨t, p, r⟩ := h1
  obtain ⟨t', p', r'⟩ := h2
  refine ⟨_, pss_cons p p', fun W0 W m σ ρ M D DD R mk h k => ?_⟩
  exact r W0 W m σ ρ M _ _ R mk h ⟨fun W' m' σ' ρ' M' R' mk' h' => r' W0 W' m' σ' ρ' M' D DD R' mk' h' k, k.rt, k.bk, k.ct, k.ex⟩
/-- a statement, then the rest, with a word between them -/
def dCut (S S' : DTS) : DTS := fun DD ρ M => ∃ I : List Ent → Mu → Prop, S { DD with nx := I } ρ M ∧ ∀ ρ' M', I ρ' M' → S' DD ρ' M'
theorem dss_cut (h1 : DS X wx st S) (h2 : DSs X wx rest S') : DSs X wx (st :: rest) (dCut S S') := by
  obtain ⟨t, p, r⟩ := h1
  obtain ⟨t', p', r'⟩ := h2
  refine ⟨_, pss_cons p p', fun W0 W m σ ρ M D DD R mk ⟨I, h, hi⟩ k => ?_⟩
  exact r W0 W m σ ρ M _ _ R mk h ⟨fun W' m' σ' ρ' M' R' mk' h' => r' W0 W' m' σ' ρ' M' D DD R' mk' (hi ρ' M' h') k, k.rt, k.bk, k.ct, k.ex⟩
theorem dss_one (h1 : DS X wx st S) : DSs X wx [st] S := by
  obtain ⟨t, p, r⟩ := h1
  exact ⟨_, pss_one p, r⟩
/-- an owned list or dict is frozen ahead of a statement -/
def frzE (i : Nat) (ρ : List Ent) : List Ent := match ga ρ i with
  | .own ds => ρ.set i (.dat (.lst ds))
  | .dk t ks => ρ.set i (.dat (.dic t ks))
  | _ => ρ
theorem Rel.frz {B : Bx} {W0 W : Wd} {m : Hp} {σ : L2.St} {ρ : List Ent} {M : Mu} (R : Rel B W0 W σ ρ) (mk : MOk B W M m) (i : Nat) : ∃ W', W'.H = W.H ∧ MOk B W' M m ∧ Rel B W0 W' σ (frzE i ρ) := by
  obtain ⟨le, len, ad, h3, h4⟩ := id R
  have q := h4 i
  have main : ∀ (o : HO) (d : D), (ga ρ i).ownd = true → W.H (ad i) = some o → W.F (ad i) = none → W0.H (ad i) = none → σ[i]? = some (some (.ref (ad i))) → (∀ F', Ex W.F F' → F' (ad i) = some o → Rp B F' (.ref (ad i)) d) → i < ρ.length →
      ∃ W', W'.H = W.H ∧ MOk B W' M m ∧ Rel B W0 W' σ (ρ.set i (.dat d)) := fun o d ow hH hF h0 hs hv hl => by
    have exF : Ex W.F (upd W.F (ad i) o) := upd_ex hF
    refine ⟨W.frz (ad i) o hH, rfl, mk.frz hH hF, ⟨le.f.trans exF, le.h, fun a z1 z2 => ?_⟩, by rw [List.length_set]; exact len, ad, fun j k hjk hj hk => ?_, fun j => ?_⟩
    · show upd W.F (ad i) o a = none
      rw [upd_ne (fun y => by subst y; exact z1 h0)]; exact le.n a z1 z2
    · rw [ga_set, if_pos hl] at hj hk
      split at hj
      · cases hj
      · split at hk
        · cases hk
        · exact h3 j k hjk hj hk
    · rw [ga_set]
      by_cases z : i = j
      · subst z
        rw [if_pos rfl, if_pos hl]
        exact ⟨_, hs, hv _ exF upd_same⟩
      · rw [if_neg z]
        have q := h4 j
        have keep : ∀ a', (ga ρ j).ownd = true → a' = ad j → W.F a' = none → upd W.F (ad i) o a' = none := fun a' oj e hn => by
          rw [upd_ne (fun y => h3 i j z ow oj (y.symm.trans e))]; exact hn
        cases y : ga ρ j with
        | un => trivial
        | dat d => rw [y] at q; obtain ⟨v, q1, q2⟩ := q; exact ⟨v, q1, q2.mono exF⟩
        | own ds => rw [y] at q keep; obtain ⟨vs, q1, q2, q3, q4, q5⟩ := q; exact ⟨vs, q1, q2, keep _ rfl rfl q3, q4, q5.mono exF⟩
        | bor d => rw [y] at q; obtain ⟨v, q1, q2⟩ := q; exact ⟨v, q1, q2.imp (fun z => z.monoF exF) fun z => z.mono exF⟩
        | dk t ds => rw [y] at q keep; obtain ⟨q1, q2, q3, q4⟩ := q; exact ⟨q1, q2.mono exF, keep _ rfl rfl q3, q4⟩
  unfold frzE
  have hl : ga ρ i ≠ .un → i < ρ.length := ga_lt
  cases y : ga ρ i with
  | un => exact ⟨W, rfl, mk, R⟩
  | dat d => exact ⟨W, rfl, mk, R⟩
  | bor d => exact ⟨W, rfl, mk, R⟩
  | own ds =>
    rw [y] at q hl
    obtain ⟨vs, q1, q2, q3, q4, q5⟩ := q
    exact main _ (.lst ds) (by rw [y]; rfl) q2 q3 q4 q1 (fun F' ex hf => .lst (SqL.of hf) (q5.mono ex)) (hl (fun z => by cases z))
  | dk t ds =>
    rw [y] at q hl
    obtain ⟨q1, q2, q3, q4⟩ := q
    rcases q2 with ⟨rfl, kv, ob, y1, y2⟩ | ⟨rfl, xs, ob, y1, y2⟩
    · exact main _ (.dic false ds) (by rw [y]; rfl) y1 q3 q4 q1 (fun F' ex hf => .dic hf (y2.mono ex)) (hl (fun z => by cases z))
    · exact main _ (.dic true ds) (by rw [y]; rfl) y1 q3 q4 q1 (fun F' ex hf => .dit hf (y2.mono ex)) (hl (fun z => by cases z))
def dFrz (i : Nat) (S : DTS) : DTS := fun DD ρ M => S DD (frzE i ρ) M
theorem ds_frz (i : Nat) (h : DS X wx st S) : DS X wx st (dFrz i S) := by
  obtain ⟨t, p, r⟩ := h
  refine ⟨t, p, fun W0 W m σ ρ M D DD R mk h k => ?_⟩
  obtain ⟨W', e, mk', R'⟩ := R.frz mk i
  have q := r W0 W' m σ _ M D DD R' mk' h k
  rw [e] at q
  exact q

/-! ### targets -/
abbrev DTG := D → List Ent → (List Ent → Prop) → Prop
def RfG (B : Bx) (g : TG) (G : DTG) : Prop := ∀ (W0 W : Wd) (m : Hp) (σ : L2.St) (ρ : List Ent) (v : V) (d : D) (Q : L2.St → Hp → Prop) (Qd : List Ent → Prop), Rel B W0 W σ ρ → Rp B W.F v d → G d ρ Qd → (∀ σ' ρ', Rel B W0 W σ' ρ' → Qd ρ' → Q σ' (cat W.H m)) → g v σ (cat W.H m) Q
def DG (X : Cx) (tg : Expr) (G : DTG) : Prop := ∃ g, PG X tg g ∧ RfG (bx X) g G
abbrev DTGs := List D → List Ent → (List Ent → Prop) → Prop
def RfGs (B : Bx) (g : TGs) (G : DTGs) : Prop := ∀ (W0 W : Wd) (m : Hp) (σ : L2.St) (ρ : List Ent) (v : List V) (d : List D) (Q : L2.St → Hp → Prop) (Qd : List Ent → Prop), Rel B W0 W σ ρ → RpAll B W.F v d → G d ρ Qd → (∀ σ' ρ', Rel B W0 W σ' ρ' → Qd ρ' → Q σ' (cat W.H m)) → g v σ (cat W.H m) Q
def DGs (X : Cx) (tg : List Expr) (G : DTGs) : Prop := ∃ g, PGs X tg g ∧ RfGs (bx X) g G
variable {tg : Expr} {G : DTG} {Gs : DTGs} {tgs : List Expr}
def dgName (i : Nat) : DTG := fun d ρ Q => Q (ρ.set i (.dat d))
theorem dg_name {i : Nat} {x : Str} (hN : X.N.Nodup) (hi : X.N[i]? = some x := by rfl) (hx : Loc X.env.scope x := by first | exact Or.inl rfl | exact Or.inr rfl) (hf : X.fn x = true ∨ X.env.scope.names.lookup x = some .local := by first | exact .inl rfl | exact .inr rfl) : DG X (.Name x pos) (dgName i) :=
  ⟨_, pg_name hN hi hx hf, fun W0 W m σ ρ v d Q Qd R r h k => k _ _ (R.set r) h⟩
def dgNil : DTGs := fun ds ρ Q => ds = [] ∧ Q ρ
def dgCons (G : DTG) (Gs : DTGs) : DTGs := fun ds ρ Q => match ds with | d :: r => G d ρ fun ρ' => Gs r ρ' Q | [] => False
theorem dgs_nil : DGs X [] dgNil := ⟨_, pgs_nil, fun W0 W m σ ρ v d Q Qd R r h k => by
  obtain ⟨rfl, h⟩ := h
  cases r
  exact ⟨rfl, k _ _ R h⟩⟩
theorem dgs_cons (h1 : DG X e G) (h2 : DGs X es Gs) (hs : (assignEach (e :: es) X.env).map (·.2) = assign e X.env :: (assignEach es X.env).map (·.2) := by rfl) : DGs X (e :: es) (dgCons G Gs) := by
  obtain ⟨g, p, r⟩ := h1
  obtain ⟨g', p', r'⟩ := h2
  refine ⟨_, pgs_cons p p' hs, fun W0 W m σ ρ v d Q Qd R rr h k => ?_⟩
  cases rr with
  | nil => exact h.elim
  | cons q t => exact ⟨_, _, rfl, r W0 W m σ ρ _ _ _ _ R q h fun σ' ρ' R' h' => r' W0 W m σ' ρ' _ _ _ _ R' t h' k⟩
def dgTup (n : Nat) (Gs : DTGs) : DTG := fun d ρ Q => match d with | .tup ds => ds.length = n ∧ Gs ds ρ Q | _ => False
theorem dg_tup {k n : Nat} (hc : X.calm = true) (h : DGs X es Gs) (hn : (assignEach es X.env).length = n := by rfl) (hst : (assignEach es X.env).findIdx? (·.1) = none := by rfl) : DG X (.Tuple es k pos) (dgTup n Gs) := by
  obtain ⟨g, p, r⟩ := h
  refine ⟨_, pg_tup hc p hn hst, fun W0 W m σ ρ v d Q Qd R rr h k => ?_⟩
  cases d with
  | tup ds =>
    cases rr with
    | tup h1 h2 => exact ⟨_, _, rfl, Evl.ex_t (W.ok.trans (cat_ex W.H m)) h1, by rw [h2.length]; exact h.1, r W0 W m σ ρ _ _ _ _ R h2 h.2 k⟩
  | _ => exact h.elim

/-! ### assignments -/
def dAsg (i : Nat) (T : DTE) : DTS := fun DD ρ M => T ρ M (fun d => DD.nx (ρ.set i (.dat d))) fun C => DD.ex C ρ
theorem ds_set {i : Nat} {x : Str} {pos' : Pos} (hN : X.N.Nodup) (he : DE X wx e T) (hi : X.N[i]? = some x := by rfl) (hx : Loc X.env.scope x := by first | exact Or.inl rfl | exact Or.inr rfl) (hs : swapsWith e (some (.Name x pos')) pos.line X.env = pure false := by rfl)
    (hf : X.fn x = true ∨ X.env.scope.names.lookup x = some .local := by first | exact .inl rfl | exact .inr rfl) : DS X wx (.Assign [.Name x pos'] e pos) (dAsg i T) := by
  obtain ⟨t, p, r⟩ := he
  refine ⟨_, ps_set hN hi hx p hs hf, fun W0 W m σ ρ M D DD R mk h k => r W0 W m σ ρ M _ _ _ R mk h (fun d v W' m' M' q le mk' hv => ?_) fun C W' m' M' q le mk' => k.ex C W' m' σ ρ M' (R.mono le) mk' q⟩
  exact k.nx W' m' _ _ M' ((R.mono le).set hv) mk' q
/-- the name owns a new list -/
def dOwn (i : Nat) (T : DTA) : DTS := fun DD ρ M => T ρ M (fun ds => DD.nx (ρ.set i (.own ds))) fun C => DD.ex C ρ
theorem own_nx {B : Bx} {W0 W W' : Wd} {σ : L2.St} {ρ : List Ent} {p : Addr} {vs : List V} {ds : List D} {i : Nat} (R : Rel B W0 W σ ρ) (le : W.le W') (hn : W.H p = none) (hp : W'.H p = some (.lst vs)) (hf : W'.F p = none) (hv : RpAll B W'.F vs ds) : Rel B W0 W' (σ.set i (some (.ref p))) (ρ.set i (.own ds)) :=
  R.store (b := p) le (fun hl => ⟨vs, List.getElem?_set_self (by rw [R.len]; exact hl), hp, hf, ex_none R.le.h hn, hv⟩) fun _ => hn
theorem ds_own {i : Nat} {x : Str} {pos' : Pos} {T : DTA} (hN : X.N.Nodup) (he : DN X wx e T) (hi : X.N[i]? = some x := by rfl) (hx : Loc X.env.scope x := by first | exact Or.inl rfl | exact Or.inr rfl) (hs : swapsWith e (some (.Name x pos')) pos.line X.env = pure false := by rfl)
    (hf : X.fn x = true ∨ X.env.scope.names.lookup x = some .local := by first | exact .inl rfl | exact .inr rfl) : DS X wx (.Assign [.Name x pos'] e pos) (dOwn i T) := by
  obtain ⟨t, p, r⟩ := he
  refine ⟨_, ps_set hN hi hx p hs hf, fun W0 W m σ ρ M D DD R mk h k => r W0 W m σ ρ M _ _ _ R mk h (fun ds p vs W' m' M' q le mk' hn hp hf hv => ?_) fun C W' m' M' q le mk' => k.ex C W' m' σ ρ M' (R.mono le) mk' q⟩
  exact k.nx W' m' _ _ M' (own_nx R le hn hp hf hv) mk' q
/-- any target -/
def dAsgG (T : DTE) (G : DTG) : DTS := fun DD ρ M => T ρ M (fun d M' => G d ρ fun ρ' => DD.nx ρ' M') fun C => DD.ex C ρ
theorem ds_asg (he : DE X wx e T) (hg : DG X tg G) (hs : swapsWithSole [tg] e pos.line X.env = pure false := by rfl) (hw : swappedStores [tg] e X.env = pure none := by rfl)
    (h1 : (assignEach [tg] X.env).map (·.2) = [assign tg X.env] := by rfl) : DS X wx (.Assign [tg] e pos) (dAsgG T G) := by
  obtain ⟨t, p, r⟩ := he
  obtain ⟨g, pg, rg⟩ := hg
  refine ⟨_, ps_asg p pg hs hw h1, fun W0 W m σ ρ M D DD R mk h k => r W0 W m σ ρ M _ _ _ R mk h (fun d v W' m' M' q le mk' hv => ?_) fun C W' m' M' q le mk' => k.ex C W' m' σ ρ M' (R.mono le) mk' q⟩
  exact rg W0 W' m' σ ρ v d _ _ (R.mono le) hv q fun σ' ρ' R' h' => k.nx W' m' σ' ρ' M' R' mk' h'
/-- a, b = x, y -/
def dPar (i j : Nat) (R : DTA) : DTS := fun DD ρ M => R ρ M (fun ds M' => match ds with | [x, y] => DD.nx ((ρ.set i (.dat x)).set j (.dat y)) M' | _ => False) fun C => DD.ex C ρ
/-- x op= e, ints -/
def dAugI (i : Nat) (f : Int → Int → Int) (T : DTE) : DTS := fun DD ρ M => match ga ρ i with
  | .dat (.int x) => T ρ M (fun d M' => match d with | .int y => DD.nx (ρ.set i (.dat (.int (f x y)))) M' | _ => False) fun C => DD.ex C ρ
  | _ => False
def dDrop (T : DTE) : DTS := fun DD ρ M => T ρ M (fun _ => DD.nx ρ) fun C => DD.ex C ρ
theorem ds_expr (he : DE X wx e T) (hs : swapsWith e none pos.line X.env = pure false := by rfl) : DS X wx (.Expr e pos) (dDrop T) := by
  obtain ⟨t, p, r⟩ := he
  exact ⟨_, ps_expr p hs, fun W0 W m σ ρ M D DD R mk h k => r W0 W m σ ρ M _ _ _ R mk h (fun d v W' m' M' q le mk' hv => k.nx W' m' σ ρ M' (R.mono le) mk' q) fun C W' m' M' q le mk' => k.ex C W' m' σ ρ M' (R.mono le) mk' q⟩
def dRet (T : DTE) : DTS := fun DD ρ M => T ρ M DD.rt fun C => DD.ex C ρ
theorem ds_ret (he : DE X wx e T) : DS X wx (.Return (some e) pos) (dRet T) := by
  obtain ⟨t, p, r⟩ := he
  exact ⟨_, ps_ret p, fun W0 W m σ ρ M D DD R mk h k => r W0 W m σ ρ M _ _ _ R mk h (fun d v W' m' M' q le mk' hv => k.rt d v W' m' M' (R.le.trans le) mk' hv q) fun C W' m' M' q le mk' => k.ex C W' m' σ ρ M' (R.mono le) mk' q⟩
def dRetN : DTS := fun DD _ M => DD.rt .non M
def dBreak : DTS := fun DD ρ M => DD.bk ρ M
def dCont : DTS := fun DD ρ M => DD.ct ρ M
def dIf (U : DTT) (S S' : DTS) : DTS := fun DD ρ M => U ρ M (fun b M' => if b = true then S DD ρ M' else S' DD ρ M') fun C => DD.ex C ρ
theorem ds_if {body orelse : List Stmt} (hc : DT X wx c U) (ha : DSs X wx body S) (hb : DSs X wx orelse S') : DS X wx (.If c body orelse pos) (dIf U S S') := by
  obtain ⟨t, p, r⟩ := hc
  obtain ⟨ta, pa, ra⟩ := ha
  obtain ⟨tb, pb, rb⟩ := hb
  refine ⟨_, ps_if p pa pb, fun W0 W m σ ρ M D DD R mk h k => r W0 W m σ ρ M _ _ _ R mk h (fun b W' m' M' q le mk' => ?_) fun C W' m' M' q le mk' => k.ex C W' m' σ ρ M' (R.mono le) mk' q⟩
  cases b with
  | true => exact ra W0 W' m' σ ρ M' D DD (R.mono le) mk' q k
  | false => exact rb W0 W' m' σ ρ M' D DD (R.mono le) mk' q k
/-- while: a word with its measure -/
def dWhile (U : DTT) (S : DTS) : DTS := fun DD ρ M => ∃ I : Nat → List Ent → Mu → Prop, (∃ n, I n ρ M) ∧ ∀ n ρ' M', I n ρ' M' → U ρ' M' (fun b M2 => if b = true then S { DD with nx := fun r M3 => ∃ n', n' < n ∧ I n' r M3, ct := fun r M3 => ∃ n', n' < n ∧ I n' r M3, bk := DD.nx } ρ' M2 else DD.nx ρ' M2) fun C => DD.ex C ρ'
theorem ds_while (hp : PassesOwn (model X.prog X.w) X.A X.env X.xe) (hc : DT X wx c U) (hb : DSs X wx body S) : DS X wx (.While c body [] pos) (dWhile U S) := by
  obtain ⟨t, p, r⟩ := hc
  obtain ⟨tb, pb, rb⟩ := hb
  refine ⟨_, ps_while hp p pb, fun W0 W m σ ρ M D DD R mk h k => ?_⟩
  obtain ⟨I, ⟨n0, i0⟩, hs⟩ := h
  refine ⟨fun n σ H => ∃ W m ρ M, cat W.H m = H ∧ Rel (bx X) W0 W σ ρ ∧ MOk (bx X) W M m ∧ I n ρ M, ⟨n0, W, m, ρ, M, rfl, R, mk, i0⟩, ?_⟩
  rintro n σ H ⟨W, m, ρ, M, rfl, R, mk, i⟩
  refine r W0 W m σ ρ M _ _ _ R mk (hs n ρ M i) (fun b W' m' M' q le mk' => ?_) fun C W' m' M' q le mk' => k.ex C W' m' σ ρ M' (R.mono le) mk' q
  cases b with
  | true =>
    refine ⟨fun σ' H' => ∃ n', n' < n ∧ ∃ W m ρ M, cat W.H m = H' ∧ Rel (bx X) W0 W σ' ρ ∧ MOk (bx X) W M m ∧ I n' ρ M, fun σ' H' ⟨n', l, z⟩ => ⟨n', l, z⟩, ?_⟩
    exact rb W0 W' m' σ ρ M' _ _ (R.mono le) mk' q ⟨fun W m σ ρ M R mk ⟨n', l, z⟩ => ⟨n', l, W, m, ρ, M, rfl, R, mk, z⟩, k.rt, k.nx, fun W m σ ρ M R mk ⟨n', l, z⟩ => ⟨n', l, W, m, ρ, M, rfl, R, mk, z⟩, k.ex⟩
  | false => exact k.nx W' m' σ ρ M' (R.mono le) mk' q

/-! ### for -/
/-- the iterator J gives what xs tell, in each world that keeps what W1 has frozen -/
def ItOk (B : Bx) (W0 W1 : Wd) (J : It) (xs : List D) : Prop := ∀ (i : Nat) (W : Wd) (m : Hp) (M : Mu), W0.le W → Ex W1.F W.F → MOk B W M m →
  (∀ d, xs[i]? = some d → J.go i (cat W.H m) ∧ ∀ x H', J.yld i (cat W.H m) x H' → ∃ W', W.le W' ∧ cat W'.H m = H' ∧ MOk B W' M m ∧ Rp B W'.F x d) ∧ (xs.length ≤ i → J.stop i (cat W.H m))
def RfI (B : Bx) (wx : WX) (wi : TI) (T : DTA) : Prop := ∀ (W0 W : Wd) (m : Hp) (σ : L2.St) (ρ : List Ent) (M : Mu) (Q : It → Hp → Prop) (Qd : List D → Mu → Prop) (Ed : Str → Mu → Prop), Rel B W0 W σ ρ → MOk B W M m → T ρ M Qd Ed →
  (∀ xs J W' m' M', Qd xs M' → W.le W' → MOk B W' M' m' → ItOk B W0 W' J xs → Q J (cat W'.H m')) → ExK B wx W σ Ed → wi σ (cat W.H m) Q
def DI (X : Cx) (wx : WX) (tg iter : Expr) (T : DTA) : Prop := ∃ wi, PI X tg iter wi ∧ RfI (bx X) wx wi T
/-- for: a word of the turn -/
def dForI (G : DTG) (S : DTS) (DD : DEnds) (xs : List D) (ρ : List Ent) (M : Mu) : Prop := ∃ I : Nat → List Ent → Mu → Prop, I 0 ρ M ∧
  (∀ i x, xs[i]? = some x → ∀ ρ' M', I i ρ' M' → G x ρ' fun ρ2 => S { DD with nx := I (i + 1), ct := I (i + 1), bk := DD.nx } ρ2 M') ∧ ∀ ρ' M', I xs.length ρ' M' → DD.nx ρ' M'
def dFor (T : DTA) (G : DTG) (S : DTS) : DTS := fun DD ρ M => T ρ M (fun xs M' => dForI G S DD xs ρ M') fun C => DD.ex C ρ
variable {iter : Expr} {Ti : DTA}
theorem EndsOk.re {B : Bx} {W0 W1 : Wd} {D : Ends} {DD : DEnds} (k : EndsOk B wx W0 D DD) (le : W0.le W1) : EndsOk B wx (W0.re W1 le) D DD :=
  ⟨fun W m σ ρ M R mk h => k.nx W m σ ρ M R.back mk h, fun d v W m M l mk r h => k.rt d v W m M (Wd.re_back l) mk r h, fun W m σ ρ M R mk h => k.bk W m σ ρ M R.back mk h, fun W m σ ρ M R mk h => k.ct W m σ ρ M R.back mk h, fun C W m σ ρ M R mk h => k.ex C W m σ ρ M R.back mk h⟩
theorem ds_for (hp : PassesOwn (model X.prog X.w) X.A X.env X.xe) (hc : X.calm = true) (hi : DI X wx tg iter Ti) (hg : DG X tg G) (hb : DSs X wx body S) (hs : ∀ x, foldedSetIterable iter X.env x = pure x := by intro _; rfl) : DS X wx (.For tg iter body [] pos) (dFor Ti G S) := by
  obtain ⟨wi, p, r⟩ := hi
  obtain ⟨g, pg, rg⟩ := hg
  obtain ⟨tb, pb, rb⟩ := hb
  refine ⟨_, ps_for hp hc p pg pb hs, fun W0 W m σ ρ M D DD R mk h k => r W0 W m σ ρ M _ _ _ R mk h (fun xs J W1 m1 M1 q le mk1 ok => ?_) fun C W' m' M' q le mk' => k.ex C W' m' σ ρ M' (R.mono le) mk' q⟩
  have R1 := R.mono le
  have k1 := k.re R1.le
  obtain ⟨I, i0, istep, iend⟩ := q
  refine ⟨fun i n σ H => ∃ W m ρ M, cat W.H m = H ∧ Rel (bx X) (W0.re W1 R1.le) W σ ρ ∧ MOk (bx X) W M m ∧ i + n = xs.length ∧ I i ρ M, ⟨xs.length, W1, m1, ρ, M1, rfl, R1.re, mk1, Nat.zero_add _, i0⟩, ?_⟩
  rintro i n σ H ⟨W, m, ρ, M, rfl, R, mk, hm, q⟩
  obtain ⟨go, stop⟩ := ok i W m M R.back.le R.le.f mk
  cases z : xs[i]? with
  | none =>
    have hl : xs.length ≤ i := List.getElem?_eq_none_iff.mp z
    have e : i = xs.length := by omega
    subst e
    exact .inl ⟨stop hl, k1.nx W m σ ρ M R mk (iend ρ M q)⟩
  | some d =>
    obtain ⟨g1, g2⟩ := go d z
    obtain ⟨hl, e⟩ := List.getElem?_eq_some_iff.mp z
    refine .inr ⟨g1, fun σ' H' => ∃ W m ρ M, cat W.H m = H' ∧ Rel (bx X) (W0.re W1 R1.le) W σ' ρ ∧ MOk (bx X) W M m ∧ I (i + 1) ρ M, fun σ' H' ⟨W, m, ρ, M, e1, e2, e3, e4⟩ => ⟨n - 1, by omega, W, m, ρ, M, e1, e2, e3, by omega, e4⟩, fun x H' y => ?_⟩
    obtain ⟨W', le', e', mk', rv⟩ := g2 x H' y
    subst e'
    refine rg _ W' m σ ρ x d _ _ (R.mono le') rv (istep i d z ρ M q) fun σ' ρ' R' h' => ?_
    exact rb _ W' m σ' ρ' M _ _ R' mk' h' ⟨fun W m σ ρ M R mk h => ⟨W, m, ρ, M, rfl, R, mk, h⟩, k1.rt, k1.nx, fun W m σ ρ M R mk h => ⟨W, m, ρ, M, rfl, R, mk, h⟩, k1.ex⟩
theorem itl_ok {B : Bx} {W0 W1 : Wd} {a : Addr} {vs : List V} {ds : List D} (hs : ∀ W, W0.le W → Ex W1.F W.F → SqL B.K W.H a vs) (hv : RpAll B W1.F vs ds) : ItOk B W0 W1 (Itl B.K a) ds := fun i W m M le ex mk => by
  have sq := Evl.ex_l (cat_ex W.H m) (hs W le ex)
  refine ⟨fun d hd => ?_, fun hl => ⟨vs, sq, by rw [hv.length]; exact hl⟩⟩
  obtain ⟨v, h1, h2⟩ := hv.get hd
  refine ⟨⟨vs, v, sq, h1⟩, fun x H' y => ?_⟩
  obtain ⟨rfl, y⟩ := y
  have := y vs sq
  rw [h1] at this
  cases this
  exact ⟨W, Wd.le.refl W, rfl, mk, h2.mono ex⟩
theorem itt_ok {B : Bx} {W0 W1 : Wd} {a : Addr} {vs : List V} {ds : List D} (hs : ∀ W, W0.le W → Ex W1.F W.F → SqT B.K W.H a vs) (hv : RpAll B W1.F vs ds) : ItOk B W0 W1 (Itt B.K a) ds := fun i W m M le ex mk => by
  have sq := Evl.ex_t (cat_ex W.H m) (hs W le ex)
  refine ⟨fun d hd => ?_, fun hl => ⟨vs, sq, by rw [hv.length]; exact hl⟩⟩
  obtain ⟨v, h1, h2⟩ := hv.get hd
  refine ⟨⟨vs, v, sq, h1⟩, fun x H' y => ?_⟩
  obtain ⟨rfl, y⟩ := y
  have := y vs sq
  rw [h1] at this
  cases this
  exact ⟨W, Wd.le.refl W, rfl, mk, h2.mono ex⟩
/-- over a list that was lent -/
def dItB (i : Nat) : DTA := fun ρ M Q _ => match ga ρ i with | .bor (.lst ds) => Q ds M | .dat (.lst ds) => Q ds M | _ => False
theorem di_bor (i : Nat) {x : Str} (hN : X.N[i]? = some x := by rfl) (hv : Vis X.env.scope x := by first | exact Or.inl rfl | exact Or.inr (Or.inl rfl) | exact Or.inr (Or.inr rfl)) (hd : (x == ("__debug__" : Str)) = false := by decide)
    (hcd : (x == ("__classdict__" : Str)) = false := by decide) : DI X wx tg (.Name x pos) (dItB i) := by
  refine ⟨_, pi_list (pe_var hN hv hd hcd), fun W0 W m σ ρ M Q Qd Ed R mk h1 h2 h3 => ?_⟩
  unfold dItB at h1
  obtain ⟨le, _, ad, _, h4⟩ := id R
  have q := h4 i
  split at h1
  · rename_i ds z
    rw [z] at q
    obtain ⟨v, q1, q2⟩ := q
    have : ∃ b vs, v = .ref b ∧ (SqL X.K W0.H b vs ∨ SqL X.K W.F b vs) ∧ RpAll (bx X) W.F vs ds := by
      rcases q2 with ⟨b, vs, e1, e2, e3⟩ | q2
      · exact ⟨b, vs, e1, .inl e2, e3⟩
      · cases q2 with
        | lst e2 e3 => exact ⟨_, _, rfl, .inr e2, e3⟩
    obtain ⟨b, vs, rfl, q2, q3⟩ := this
    have hs : ∀ W', W0.le W' → Ex W.F W'.F → SqL X.K W'.H b vs := fun W' l ex => q2.elim (Evl.ex_l l.h) fun z => Evl.ex_l W'.ok (Evl.ex_l ex z)
    exact ⟨_, q1, _, rfl, ⟨_, Evl.ex_l (cat_ex W.H m) (hs W le (Ex.refl _))⟩, h2 _ _ W m M h1 (Wd.le.refl W) mk (itl_ok (B := bx X) hs q3)⟩
  · rename_i z
    rw [z] at q
    obtain ⟨v, q1, q2⟩ := q
    cases q2 with
    | lst h4 h5 => exact ⟨_, q1, _, rfl, ⟨_, Evl.ex_l (W.ok.trans (cat_ex W.H m)) h4⟩, h2 _ _ W m M h1 (Wd.le.refl W) mk (itl_ok (B := bx X) (fun W'' _ ex => Evl.ex_l W''.ok (Evl.ex_l ex h4)) h5)⟩
  · exact h1.elim
/-- range -/
def rngD (lo : Int) (n : Nat) : List D := (List.range n).map fun i => D.int (lo + (i : Nat))
theorem itr_ok {B : Bx} {W0 W1 : Wd} (lo : Int) (n : Nat) : ItOk B W0 W1 (Itr lo n) (rngD lo n) := fun i W m M le ex mk => by
  refine ⟨fun d hd => ?_, fun hl => by show n ≤ i; simpa [rngD] using hl⟩
  unfold rngD at hd
  rw [List.getElem?_map] at hd
  cases z : (List.range n)[i]? with
  | none => rw [z] at hd; cases hd
  | some j =>
    obtain ⟨hl, e⟩ := List.getElem?_eq_some_iff.mp z
    rw [List.getElem_range] at e
    subst e
    rw [z] at hd
    cases hd
    refine ⟨by show i < n; simpa using hl, fun x H' y => ?_⟩
    obtain ⟨rfl, rfl⟩ := y
    exact ⟨W, Wd.le.refl W, rfl, mk, .int _⟩
def dRng1 (R : DTA) : DTA := fun ρ M Q E => R ρ M (fun ds M' => match ds with | [.int j] => -(2 ^ 62) ≤ j ∧ j < 2 ^ 62 ∧ Q (rngD 0 j.toNat) M' | _ => False) E
def dRng2 (R : DTA) : DTA := fun ρ M Q E => R ρ M (fun ds M' => match ds with | [.int i, .int j] => (-(2 ^ 62) ≤ i ∧ i < 2 ^ 62 ∧ -(2 ^ 62) ≤ j ∧ j < 2 ^ 62) ∧ Q (rngD i (j - i).toNat) M' | _ => False) E
theorem rp_int {B : Bx} {F H : Hp} {v : V} {j : Int} (h : RpR B F H v (.int j)) : v = .int j := by cases h; rfl
theorem args_int {B : Bx} {W : Wd} {ms : List Bool} {vs : List V} : ∀ {js : List Int}, ArgsOk B W ms vs (js.map D.int) → vs = js.map V.int := fun {js} h => by
  induction js generalizing ms vs with
  | nil => cases h; rfl
  | cons j js ih =>
    cases h with
    | dat r t => cases r; rw [ih t]; rfl
    | bor r t => rw [rp_int r, ih t]; rfl
theorem di_range1 {ms : List Bool} {Ra : DTA} {p : Pos} (hm : X.mg "range" = none) (ha : DM X wx ms [a] Ra) (hg : Gl X "range" := by rfl) (hs : starEach [a] X.env = [(false, eval a X.env)] := by rfl) : DI X wx tg (.Call (.Name "range" p) [a] [] pos) (dRng1 Ra) := by
  obtain ⟨t, pa, r⟩ := ha
  refine ⟨_, pi_range1 hg hm pa hs, fun W0 W m σ ρ M Q Qd Ed R mk h1 h2 h3 => r W0 W m σ ρ M _ _ _ R mk h1 (fun ds vs W' m' M' q le mk' hv => ?_) h3⟩
  split at q
  · rename_i j
    have e := args_int (js := [j]) hv
    subst e
    exact ⟨j, rfl, q.1, q.2.1, h2 _ _ W' m' M' q.2.2 le mk' (itr_ok 0 j.toNat)⟩
  · exact q.elim
/-- enumerate of a frozen list -/
def enumD (xs : List D) : List D := xs.zipIdx.map fun p => D.tup [.int (p.2 : Nat), p.1]
theorem enumD_get {xs : List D} {i : Nat} {d : D} (h : (enumD xs)[i]? = some d) : ∃ x, xs[i]? = some x ∧ d = .tup [.int (i : Nat), x] := by
  unfold enumD at h
  rw [List.getElem?_map, List.getElem?_zipIdx] at h
  cases z : xs[i]? with
  | none => rw [z] at h; cases h
  | some x => rw [z] at h; simp at h; exact ⟨x, rfl, h.symm⟩
def dEnum (R : DTA) : DTA := fun ρ M Q E => R ρ M (fun ds M' => match ds with | [.lst xs] => Q (enumD xs) M' | [.tup xs] => Q (enumD xs) M' | _ => False) E
theorem di_enum {ms : List Bool} {Ra : DTA} {p tpos : Pos} {elts : List Expr} {kk : Nat} (hm : X.mg "enumerate" = none) (ha : DM X wx ms [a] Ra) (hms : ms.any id = false := by rfl) (hg : Gl X "enumerate" := by rfl) (hs : starEach [a] X.env = [(false, eval a X.env)] := by rfl) : DI X wx (.Tuple elts kk tpos) (.Call (.Name "enumerate" p) [a] [] pos) (dEnum Ra) := by
  obtain ⟨t, pa, r⟩ := ha
  refine ⟨_, pi_enumA hg hm pa hs, fun W0 W m σ ρ M Q Qd Ed R mk h1 h2 h3 => r W0 W m σ ρ M _ _ _ R mk h1 (fun ds vs W' m' M' q le mk' hv => ?_) h3⟩
  have hv := hv.all hms
  split at q
  · rename_i xs
    cases hv with
    | cons r1 t1 =>
      cases t1
      cases r1 with
      | lst h4 h5 =>
        rename_i aa vv
        refine ⟨aa, vv, rfl, .inl ⟨Evl.ex_l (W'.ok.trans (cat_ex W'.H m')) h4, h2 _ _ W' m' M' q le mk' fun i W2 m2 M2 le2 ex mk2 => ?_⟩⟩
        have sq : SqL X.K (cat W2.H m2) aa vv := Evl.ex_l (W2.ok.trans (cat_ex W2.H m2)) (Evl.ex_l ex h4)
        refine ⟨fun d hd => ?_, fun hl => ⟨vv, sq, by rw [h5.length]; simpa [enumD] using hl⟩⟩
        obtain ⟨x, hx, rfl⟩ := enumD_get hd
        obtain ⟨v, g1, g2⟩ := h5.get hx
        refine ⟨⟨vv, v, sq, g1⟩, fun x' H' y => ?_⟩
        obtain ⟨T, x2, rfl, hT, rfl, y⟩ := y
        have := y vv sq
        rw [g1] at this
        cases this
        have hT1 := (cat_new hT).1
        exact ⟨W2.new T _, W2.le_new hT1, cat_upd.symm, mk2.new hT, .tup (SqT.of (upd_same (H := W2.F))) (.cons (.int _) (.cons ((g2.mono ex).mono (W2.le_new hT1).f) .nil))⟩
  · rename_i xs
    cases hv with
    | cons r1 t1 =>
      cases t1
      cases r1 with
      | tup h4 h5 =>
        rename_i aa vv
        refine ⟨aa, vv, rfl, .inr ⟨Evl.ex_t (W'.ok.trans (cat_ex W'.H m')) h4, h2 _ _ W' m' M' q le mk' fun i W2 m2 M2 le2 ex mk2 => ?_⟩⟩
        have sq : SqT X.K (cat W2.H m2) aa vv := Evl.ex_t (W2.ok.trans (cat_ex W2.H m2)) (Evl.ex_t ex h4)
        refine ⟨fun d hd => ?_, fun hl => ⟨vv, sq, by rw [h5.length]; simpa [enumD] using hl⟩⟩
        obtain ⟨x, hx, rfl⟩ := enumD_get hd
        obtain ⟨v, g1, g2⟩ := h5.get hx
        refine ⟨⟨vv, v, sq, g1⟩, fun x' H' y => ?_⟩
        obtain ⟨T, x2, rfl, hT, rfl, y⟩ := y
        have := y vv sq
        rw [g1] at this
        cases this
        have hT1 := (cat_new hT).1
        exact ⟨W2.new T _, W2.le_new hT1, cat_upd.symm, mk2.new hT, .tup (SqT.of (upd_same (H := W2.F))) (.cons (.int _) (.cons ((g2.mono ex).mono (W2.le_new hT1).f) .nil))⟩
  · exact q.elim
/-- the signs of a text -/
def signsD (x : Str) : List D := x.cps.toList.map fun c => D.str ⟨#[c]⟩
/-- over a list, a tuple or a text -/
def dItA (T : DTE) : DTA := fun ρ M Q E => T ρ M (fun x M' => match x with | .lst xs => Q xs M' | .tup xs => Q xs M' | .str z => Q (signsD z) M' | .dic _ ks => Q (ks.map (·.1)) M' | _ => False) E
theorem its_ok {B : Bx} {W0 W1 : Wd} (z : Str) : ItOk B W0 W1 (Its z) (signsD z) := fun i W2 m M le2 ex mk => by
  refine ⟨fun d hd => ?_, fun hl => by show z.cps.size ≤ i; simpa [signsD] using hl⟩
  unfold signsD at hd
  rw [List.getElem?_map] at hd
  cases y : z.cps.toList[i]? with
  | none => rw [y] at hd; cases hd
  | some c =>
    rw [y] at hd
    cases hd
    have y' : z.cps[i]? = some c := by simpa using y
    refine ⟨(Array.getElem?_eq_some_iff.mp y').1, fun x H' w => ?_⟩
    obtain ⟨rfl, c', e, rfl⟩ := w
    rw [y'] at e
    cases e
    exact ⟨W2, Wd.le.refl W2, rfl, mk, .str _⟩
/-! ### over a dict -/
def ItK (d : Addr) (o : HO) (n : Nat) (f : Nat → Option V) : It := ⟨fun i H => H d = some o ∧ i < n, fun i H x H' => H' = H ∧ f i = some x, fun i H => H d = some o ∧ n ≤ i⟩
theorem dk_frz {pins : List (Addr × Obj)} {σ : L2.St} {H : Hp} {s : Shared} {d : Addr} {o : Obj} {kvs : List (Key × V)} (I : Inv X pins σ H s) (h : H d = some (.ext (DkAt (bx X) d o kvs))) :
    (d == sysModules) = false ∧ s.heap.get? d = some o ∧ o.ExactDict ∧ ∃ (es : Array DictEntry) (ep : Nat) (vs : List (Key × Value)), o.data = .dict es ep ∧ es.size = kvs.length ∧ KV kvs vs ∧ s.heap.DictAt (mixKind X.prog X.w) d vs ep := by
  obtain ⟨hd, z, hs, vs, kv, o', es, ep, ho, hx, hdt, r⟩ := dk_at I h
  rw [hd] at ho
  cases ho
  refine ⟨hs, hd, hx, es, ep, vs, hdt, ?_, kv, o, es, hd, hx, hdt, r⟩
  have l1 := r.2.1.length
  have l2 : kvs.length = vs.length := Paired.length kv
  rw [Array.length_toList] at l1
  omega
theorem turnK {P : Program} {w : World} {K : PySem.W.Frag} {mg : Str → Option Value} {d : Addr} {o : Obj} {es : Array DictEntry} {ep : Nat} {kvs : List (Key × V)} (it : Addr) (hod : o.data = .dict es ep) :
    Turn P w K tg (ItK d (.ext (DkAt ⟨P, w, K, mg⟩ d o kvs)) kvs.length fun i => (kvs[i]?).map fun p => kV p.1) [it] it (fun i h => h.IsKeyIter it d i kvs.length ep) where
  mem := by simp
  obj := fun i h st b hb => by
    have e : b = it := by simpa using hb
    subst e
    obtain ⟨oi, e, c, dd⟩ := st
    exact ⟨oi, e, fun v z => by rw [dd] at z; cases z⟩
  keep := fun i h h' st k => st.at fun oi e => k it (by simp) oi e
  item := by
    intro X hP hw hK hc i pins s σ H E I hf st hg
    subst hP hw hK
    obtain ⟨hd, hi⟩ := hg
    obtain ⟨f0, f1, f2, f3, f4, f5⟩ := hf it (by simp)
    obtain ⟨hs, hgd, hx, es', ep', vs, hdt, hsz, kv, hm⟩ := dk_frz (X := X) I hd
    obtain ⟨rfl, rfl⟩ := dict_ep hod hdt
    obtain ⟨⟨k, v⟩, hkv⟩ : ∃ p, kvs[i]? = some p := ⟨kvs[i], List.getElem?_eq_getElem hi⟩
    obtain ⟨u, hu, ru⟩ := kv_get kv hkv
    have hl : kvs.length = vs.length := Paired.length kv
    rw [hl] at st
    refine wpAny_pyNext_dict_item st hm hu fun key h' hkey st' sb => ?_
    have I1 : Inv X pins σ H { s with heap := h' } := I.turned (t' := s.toks) (fun b ob hb e => (sb.2 b hb).trans e) f0 f1 f3 f4 f5
    obtain ⟨oi, e, c, dd⟩ := id st'
    refine ⟨key, rfl, go_of (s := { s with heap := h' }) e c dd (by decide) ⟨kV k, H, I1, relV_key (show keyIs k key = true from hkey), ⟨rfl, by show Option.map _ _ = _; rw [hkv]; rfl⟩, ?_, fun b hb => (hf b hb).1⟩⟩
    show h'.IsKeyIter it d (i + 1) kvs.length _
    rw [hl]
    exact st'
  done := by
    intro X hP hw hK hc i pins s σ H E I hf st hg
    subst hP hw hK
    obtain ⟨hd, hi⟩ := hg
    obtain ⟨f0, f1, f2, f3, f4, f5⟩ := hf it (by simp)
    obtain ⟨hs, hgd, hx, es', ep', vs, hdt, hsz, kv, hm⟩ := dk_frz (X := X) I hd
    obtain ⟨rfl, rfl⟩ := dict_ep hod hdt
    exact next_key_end (I.ok.hd hc) st hgd hdt hsz hi fun h' eb => ⟨rfl, I.turned (t' := s.toks) (fun b ob hb e => eb b ob hb e) f0 f1 f3 f4 f5⟩
  self := fun A i s Q E st h => wpAny_pyIter_keyiter st h
theorem turnX {P : Program} {w : World} {K : PySem.W.Frag} {mg : Str → Option Value} {d : Addr} {o : Obj} {es : Array DictEntry} {ep : Nat} {xs : List (NestedKey × Addr × Value)} (it : Addr) (hod : o.data = .dict es ep) :
    Turn P w K tg (ItK d (.ext (RawD ⟨P, w, K, mg⟩ d o xs)) xs.length fun i => (xs[i]?).map fun x => .ref x.2.1) [it] it (fun i h => h.IsKeyIter it d i xs.length ep) where
  mem := by simp
  obj := fun i h st b hb => by
    have e : b = it := by simpa using hb
    subst e
    obtain ⟨oi, e, c, dd⟩ := st
    exact ⟨oi, e, fun v z => by rw [dd] at z; cases z⟩
  keep := fun i h h' st k => st.at fun oi e => k it (by simp) oi e
  item := by
    intro X hP hw hK hc i pins s σ H E I hf st hg
    subst hP hw hK
    obtain ⟨hd, hi⟩ := hg
    obtain ⟨f0, f1, f2, f3, f4, f5⟩ := hf it (by simp)
    obtain ⟨hgd, z, hs, hx, hnd, es', ep', hdt, he⟩ := (I.hok d _ hd).1
    obtain ⟨rfl, rfl⟩ := dict_ep hod hdt
    have hsz : es'.size = xs.length := size_of_entries he
    obtain ⟨x, hkv⟩ : ∃ p, xs[i]? = some p := ⟨xs[i], List.getElem?_eq_getElem hi⟩
    have hen := entry_at he i
    rw [hkv] at hen
    refine next_key_item st hgd hdt hsz hen fun h' st' sb => ?_
    have I1 : Inv X pins σ H { s with heap := h' } := I.turned (t' := s.toks) (fun b ob hb e => (sb.2 b hb).trans e) f0 f1 f3 f4 f5
    obtain ⟨oi, e, c, dd⟩ := id st'
    exact ⟨_, rfl, go_of (s := { s with heap := h' }) e c dd (by decide) ⟨.ref x.2.1, H, I1, rfl, ⟨rfl, by show Option.map _ _ = _; rw [hkv]; rfl⟩, st', fun b hb => (hf b hb).1⟩⟩
  done := by
    intro X hP hw hK hc i pins s σ H E I hf st hg
    subst hP hw hK
    obtain ⟨hd, hi⟩ := hg
    obtain ⟨f0, f1, f2, f3, f4, f5⟩ := hf it (by simp)
    obtain ⟨hgd, z, hs, hx, hnd, es', ep', hdt, he⟩ := (I.hok d _ hd).1
    obtain ⟨rfl, rfl⟩ := dict_ep hod hdt
    have hsz : es'.size = xs.length := size_of_entries he
    exact next_key_end (I.ok.hd hc) st hgd hdt hsz hi fun h' eb => ⟨rfl, I.turned (t' := s.toks) (fun b ob hb e => eb b ob hb e) f0 f1 f3 f4 f5⟩
  self := fun A i s Q E st h => wpAny_pyIter_keyiter st h
def iAny (B : Bx) (tl : TE) : TI := fun σ H R => tl σ H fun x H1 => (∃ a, x = .ref a ∧ (∃ xs, SqL B.K H1 a xs) ∧ R (Itl B.K a) H1) ∨ (∃ a, x = .ref a ∧ (∃ xs, SqT B.K H1 a xs) ∧ R (Itt B.K a) H1) ∨ (∃ z, x = .str z ∧ R (Its z) H1) ∨ (∃ a o kv, x = .ref a ∧ H1 a = some (.ext (DkAt B a o kv)) ∧ R (ItK a (.ext (DkAt B a o kv)) kv.length fun i => (kv[i]?).map fun p => kV p.1) H1) ∨ ∃ a o xs, x = .ref a ∧ H1 a = some (.ext (RawD B a o xs)) ∧ R (ItK a (.ext (RawD B a o xs)) xs.length fun i => (xs[i]?).map fun x => .ref x.2.1) H1
theorem pi_any {l : Expr} {tl : TE} (hl : PE X l tl) : PI X tg l (iAny (bx X) tl) := by
  refine ⟨fun pins s σ H R I h => ?_⟩
  refine thn (hl.run pins s σ H _ I h) fun v s1 ⟨x, H1, I1, r1, q1⟩ => ?_
  rcases q1 with ⟨a, e, ⟨xs, hq⟩, q⟩ | ⟨a, e, ⟨xs, hq⟩, q⟩ | ⟨z, e, q⟩ | ⟨d, o, kv, e, hd, q⟩ | ⟨d, o, xs, e, hd, q⟩
  · subst e
    cases r1
    obtain ⟨its, rv, p, hz⟩ := I1.list hq
    refine wpAny_pyIter_list p.isList ?_
    refine ⟨s1.heap.objs.size, [s1.heap.objs.size], _, _, H1, rfl, I1.kept (t' := s1.toks) fun b o e => Heap.get?_push_of_some _ e, turn_list a _, ⟨_, Heap.get?_push_size _ rfl, rfl, rfl⟩, fun b hb => ?_, q⟩
    have e : b = s1.heap.objs.size := by simpa using hb
    subst e
    exact I1.fpOk (Nat.le_refl _) (I1.hok.fresh (Nat.le_refl _))
  · subst e
    cases r1
    obtain ⟨its, rv, p, hz⟩ := I1.tuple hq
    refine wpAny_pyIter_tuple (show s1.heap.IsTuple a its.toArray from p) ?_
    refine ⟨s1.heap.objs.size, [s1.heap.objs.size], _, _, H1, rfl, I1.kept (t' := s1.toks) fun b o e => Heap.get?_push_of_some _ e, turn_tuple a _, ⟨_, Heap.get?_push_size _ rfl, rfl, rfl⟩, fun b hb => ?_, q⟩
    have e : b = s1.heap.objs.size := by simpa using hb
    subst e
    exact I1.fpOk (Nat.le_refl _) (I1.hok.fresh (Nat.le_refl _))
  · subst e
    obtain ⟨t, rfl⟩ := r1
    cases ha : z.cps.all (· < 128)
    · exact wpAny_pyIter_wide ha (pi_one (tk := s1.toks) I1 _ (turn_str _ z t "str_iterator" (.inr rfl)) ⟨_, Heap.get?_push_size _ rfl, rfl, rfl⟩ q)
    · exact wpAny_pyIter_ascii ha (pi_one (tk := s1.toks) I1 _ (turn_str _ z t "str_ascii_iterator" (.inl rfl)) ⟨_, Heap.get?_push_size _ rfl, rfl, rfl⟩ q)
  · subst e
    cases r1
    obtain ⟨hs, hgd, hx, es, ep, vs, hdt, hsz, kv', hm⟩ := dk_frz I1 hd
    refine iter_keys hs hgd hx hdt (pi_one (tk := s1.toks) I1 _ (turnK _ hdt) ⟨_, Heap.get?_push_size _ rfl, rfl, ?_⟩ q)
    rw [hsz] <;> rfl
  · subst e
    cases r1
    obtain ⟨hgd, z, hs, hx, hnd, es, ep, hdt, he⟩ := (I1.hok d _ hd).1
    have hsz : es.size = xs.length := size_of_entries he
    refine iter_keys hs hgd hx hdt (pi_one (tk := s1.toks) I1 _ (turnX _ hdt) ⟨_, Heap.get?_push_size _ rfl, rfl, ?_⟩ q)
    rw [hsz] <;> rfl
theorem di_any (he : DE X wx iter T) : DI X wx tg iter (dItA T) := by
  obtain ⟨t, p, r⟩ := he
  refine ⟨_, pi_any p, fun W0 W m σ ρ M Q Qd Ed R mk h1 h2 h3 => r W0 W m σ ρ M _ _ _ R mk h1 (fun d v W' m' M' q le mk' hv => ?_) h3⟩
  have ok := W'.ok.trans (cat_ex W'.H m')
  cases d with
  | lst xs =>
    cases hv with
    | lst h4 h5 => exact .inl ⟨_, rfl, ⟨_, Evl.ex_l ok h4⟩, h2 xs _ W' m' M' q le mk' (itl_ok (B := bx X) (fun W'' _ ex => Evl.ex_l W''.ok (Evl.ex_l ex h4)) h5)⟩
  | tup xs =>
    cases hv with
    | tup h4 h5 => exact .inr (.inl ⟨_, rfl, ⟨_, Evl.ex_t ok h4⟩, h2 xs _ W' m' M' q le mk' (itt_ok (B := bx X) (fun W'' _ ex => Evl.ex_t W''.ok (Evl.ex_t ex h4)) h5)⟩)
  | str z => cases hv; exact .inr (.inr (.inl ⟨z, rfl, h2 _ _ W' m' M' q le mk' (its_ok z)⟩))
  | dic t ks =>
    cases hv with
    | dic h4 h5 =>
      rename_i a o kv
      refine .inr (.inr (.inr (.inl ⟨a, o, kv, rfl, ok _ _ h4, h2 _ _ W' m' M' q le mk' fun i W2 m2 M2 le2 ex mk2 => ?_⟩)))
      have hc := (W2.ok.trans (cat_ex W2.H m2)) _ _ (ex _ _ h4)
      refine ⟨fun d hd => ?_, fun hl => ⟨hc, by rw [List.length_map] at hl; rw [h5.len]; exact hl⟩⟩
      rw [List.getElem?_map] at hd
      obtain ⟨p, hp, e⟩ := Option.map_eq_some_iff.mp hd
      obtain ⟨k, v, e1, e2⟩ := h5.at hp
      refine ⟨⟨hc, (List.getElem?_eq_some_iff.mp e1).1⟩, fun x H' y => ?_⟩
      obtain ⟨rfl, y⟩ := y
      have y : Option.map (fun p => kV p.1) kv[i]? = some x := y
      rw [e1] at y
      cases y
      refine ⟨W2, Wd.le.refl W2, rfl, mk2, ?_⟩
      rw [← e, e2]
      cases k with
      | inl i => exact .int i
      | inr x => exact .str x
    | dit h4 h5 =>
      rename_i a o xs
      refine .inr (.inr (.inr (.inr ⟨a, o, xs, rfl, ok _ _ h4, h2 _ _ W' m' M' q le mk' fun i W2 m2 M2 le2 ex mk2 => ?_⟩)))
      have hc := (W2.ok.trans (cat_ex W2.H m2)) _ _ (ex _ _ h4)
      refine ⟨fun d hd => ?_, fun hl => ⟨hc, by rw [List.length_map] at hl; rw [h5.len]; exact hl⟩⟩
      rw [List.getElem?_map] at hd
      obtain ⟨p, hp, e⟩ := Option.map_eq_some_iff.mp hd
      obtain ⟨x0, e1, e2⟩ := h5.at hp
      refine ⟨⟨hc, (List.getElem?_eq_some_iff.mp e1).1⟩, fun x H' y => ?_⟩
      obtain ⟨rfl, y⟩ := y
      have y : Option.map (fun x => V.ref x.2.1) xs[i]? = some x := y
      rw [e1] at y
      cases y
      refine ⟨W2, Wd.le.refl W2, rfl, mk2, ?_⟩
      rw [← e]
      exact e2.mono ex
  | _ => exact q.elim
end
end Z

namespace Z
open PySem PySem.Spec PyProof.Rows L2
open Evl (Ex)

/-! ### defs and their calls -/
def liftSp (B : Bx) (ms : List Bool) (sp : SpM) : Sp := fun vs H Q E => ∃ (W : Wd) (m : Hp) (M : Mu) (ds : List D) (Qd : D → Mu → Prop) (Ed : Str → Mu → Prop), cat W.H m = H ∧ MOk B W M m ∧ ArgsOk B W ms vs ds ∧ sp ds M Qd Ed ∧
  (∀ d v W' m' M', Qd d M' → W.le W' → MOk B W' M' m' → Rp B W'.F v d → Q v (cat W'.H m')) ∧ (∀ C W' m' M', Ed C M' → W.le W' → MOk B W' M' m' → E (.ref (B.cl C)) none (cat W'.H m'))
/-- the def at f keeps its promise -/
abbrev FnB (B : Bx) (base : Heap) (k : Nat) (f : Addr) (fd : FuncData) (ps : List Str) (ms : List Bool) (sp : SpM) : Prop := FnOk B.P B.w B.K B.mg base (L2.CX B.P B.w) k f fd ps (liftSp B ms sp)
theorem liftSp.imp {B : Bx} {ms : List Bool} {sp sp' : SpM} (hs : ∀ ds M Q E, sp' ds M Q E → sp ds M Q E) {vs : List V} {H : Hp} {Q : VK} {E : XK} : liftSp B ms sp' vs H Q E → liftSp B ms sp vs H Q E :=
  fun ⟨W, m, M, ds, Qd, Ed, a, b, c, d, e⟩ => ⟨W, m, M, ds, Qd, Ed, a, b, c, hs _ _ _ _ d, e⟩
structure Fn (B : Bx) (base : Heap) (k : Nat) (x : Str) (ms : List Bool) (sp : SpM) : Prop where
  ex : ∃ f fd ps, FnB B base k f fd ps ms sp ∧ B.mg x = some (.ref f) ∧ PySem.W.keepIn B.K (.ref f) = true ∧ Binds B.K fd ps []
theorem Fn.imp {B : Bx} {base : Heap} {k : Nat} {x : Str} {ms : List Bool} {sp sp' : SpM} (h : Fn B base k x ms sp) (hs : ∀ ds M Q E, sp' ds M Q E → sp ds M Q E) : Fn B base k x ms sp' := by
  obtain ⟨f, fd, ps, F, h1, h2, h3⟩ := h.ex
  exact ⟨f, fd, ps, F.imp fun vs H Q E => liftSp.imp hs, h1, h2, h3⟩
theorem Fn.up {B : Bx} {base : Heap} {k j : Nat} {x : Str} {ms : List Bool} {sp : SpM} (h : Fn B base k x ms sp) (hk : k ≤ j) : Fn B base j x ms sp := by
  obtain ⟨f, fd, ps, F, h1, h2, h3⟩ := h.ex
  exact ⟨f, fd, ps, F.mono hk, h1, h2, h3⟩
section
variable {X : Cx} {wx : WX} {e : Expr} {es : List Expr} {pos p : Pos}
def dCall (sp : SpM) (R : DTA) : DTE := fun ρ M Q E => R ρ M (fun ds M' => sp ds M' Q E) E
theorem rf_call {B : Bx} {ms : List Bool} {t : TA} {R : DTA} {sp : SpM} {e : Str → Addr} (h : RfM B wx ms t R) : RfE B wx (tCallS (liftSp B ms sp) (WE wx) t) (dCall sp R) := fun W0 W m σ ρ M Q Qd Ed Re k h1 h2 h3 => by
  refine h W0 W m σ ρ M _ _ Ed Re k h1 (fun ds vs W' m' M' q le k' hv => ?_) h3
  exact ⟨W', m', M', ds, Qd, Ed, rfl, k', hv, q, fun d v W'' m'' M'' q2 le2 k2 hv2 => h2 d v W'' m'' M'' q2 (le.trans le2) k2 hv2, fun C W'' m'' M'' q2 le2 k2 => h3 C W'' m'' M'' q2 (le.trans le2) k2⟩
theorem de_call {x : Str} {k j : Nat} {ms : List Bool} {sp : SpM} {R : DTA} (F : Fn (bx X) X.base k x ms sp) (hr : Room j X.A) (tk : Takes X wx) (hk : k ≤ j) (ha : DM X wx ms (e :: es) R) (hg : Gl X x := by rfl) (hdb : (x == ("__debug__" : Str)) = false := by decide)
    (he : starEach (e :: es) X.env = (false, eval e X.env) :: starEach es X.env := by rfl) (hpl : (backTo pos (starEach es X.env)).any (·.1) = false := by rfl) : DE X wx (.Call (.Name x p) (e :: es) [] pos) (dCall sp R) := by
  obtain ⟨f, fd, ps, G, h1, h2, h3⟩ := F.ex
  obtain ⟨t, pa, ra⟩ := ha
  exact ⟨_, pe_callS G (hr.mono hk) hg h1 h2 h3 (fun σ => passAt tk σ) pa hdb he hpl, rf_call (e := fun _ => 0) ra⟩
end
def entOf (m : Bool) (d : D) : Ent := if m = true then .bor d else .dat d
def startE : List Bool → Nat → List D → List Ent
  | _, 0, _ => []
  | ms, n + 1, [] => .un :: startE ms n []
  | [], n + 1, d :: ds => .dat d :: startE [] n ds
  | m :: ms, n + 1, d :: ds => entOf m d :: startE ms n ds
theorem ga_un : ∀ (ms : List Bool) (n i : Nat), ga (startE ms n []) i = .un
  | _, 0, _ => rfl
  | _, _ + 1, 0 => rfl
  | ms, n + 1, i + 1 => ga_un ms n i
theorem startE_len : ∀ (ms : List Bool) (n : Nat) (ds : List D), (startE ms n ds).length = n
  | _, 0, _ => rfl
  | ms, n + 1, [] => congrArg (· + 1) (startE_len ms n [])
  | [], n + 1, _ :: ds => congrArg (· + 1) (startE_len [] n ds)
  | _ :: ms, n + 1, _ :: ds => congrArg (· + 1) (startE_len ms n ds)
section
variable {B : Bx} {W : Wd}
theorem EntOk.shift {W0 : Wd} {σ : L2.St} {s : Option V} {i : Nat} {a : Addr} {e : Ent} (h : EntOk B W0 W σ i a e) : EntOk B W0 W (s :: σ) (i + 1) a e := by
  cases e with
  | un => trivial
  | dat d => exact h
  | own ds => exact h
  | bor ds => exact h
  | dk _ ds => exact h
theorem entOf_own (m : Bool) (d : D) : (entOf m d).ownd = false := by
  cases m <;> rfl
theorem entOf_ok {m : Bool} {v : V} {d : D} {σ : L2.St} {a : Addr} (h : if m = true then RpR B W.F W.H v d else Rp B W.F v d) : EntOk B W W (some v :: σ) 0 a (entOf m d) := by
  cases m with
  | false => exact ⟨v, rfl, h⟩
  | true => exact ⟨v, rfl, .inl h⟩
theorem rel_slots {m : Nat} {a : Addr} {ms : List Bool} {vs : List V} {ds : List D} (h : ArgsOk B W ms vs ds) : ∀ i, EntOk B W W (vs.map some ++ List.replicate m none) i a (ga (startE ms (ds.length + m) ds) i) := by
  induction h with
  | nil => intro i; rw [ga_un]; trivial
  | @dat ms v vs d ds r _ ih =>
    intro i
    have e : (d :: ds).length + m = (ds.length + m) + 1 := by simp only [List.length_cons]; omega
    rw [e]
    cases i with
    | zero => exact entOf_ok (m := false) r
    | succ i => exact (ih i).shift
  | @bor ms v vs d ds r _ ih =>
    intro i
    have e : (d :: ds).length + m = (ds.length + m) + 1 := by simp only [List.length_cons]; omega
    rw [e]
    cases i with
    | zero => exact entOf_ok (m := true) r
    | succ i => exact (ih i).shift
theorem start_own : ∀ (ms : List Bool) (n : Nat) (ds : List D) (i : Nat), (ga (startE ms n ds) i).ownd = false
  | _, 0, _, _ => rfl
  | ms, n + 1, [], i => by rw [ga_un]; rfl
  | [], n + 1, d :: ds, 0 => rfl
  | [], n + 1, d :: ds, i + 1 => start_own [] n ds i
  | m :: ms, n + 1, d :: ds, 0 => entOf_own m d
  | m :: ms, n + 1, d :: ds, i + 1 => start_own ms n ds i
theorem rel_start {N : List Str} {ms : List Bool} {vs : List V} {ds : List D} (h : ArgsOk B W ms vs ds) (hn : vs.length ≤ N.length) : Rel B W W (L2.start N vs) (startE ms N.length ds) := by
  have hl := h.length
  refine ⟨Wd.le.refl W, ?_, fun _ => 0, fun i j _ hi => ?_, fun i => ?_⟩
  · rw [startE_len]
    unfold L2.start
    rw [List.length_append, List.length_map, List.length_replicate]
    omega
  · rw [start_own] at hi; cases hi
  · have e : N.length = ds.length + (N.length - vs.length) := by omega
    have q := rel_slots (m := N.length - vs.length) (a := 0) h i
    rw [← e] at q
    exact q
theorem ms_len {ms : List Bool} {vs : List V} {ds : List D} (h : ArgsOk B W ms vs ds) : vs.length = ms.length := by
  induction h with
  | nil => rfl
  | dat _ _ ih => exact congrArg (· + 1) ih
  | bor _ _ ih => exact congrArg (· + 1) ih
end
section
variable {B : Bx} {base : Heap}
/-- what is wanted at a def's end -/
def endsOf (Q : D → Mu → Prop) (E : Str → Mu → Prop) : DEnds := ⟨fun _ M => Q .non M, Q, fun _ _ => False, fun _ _ => False, fun C _ => E C⟩
/-- the place of a def's body -/
abbrev cxF (B : Bx) (base : Heap) (N : List Str) (qual : Str) (sc : Scope) (f : Addr) (cdv : Value) (A : Around) (outer : List Env) (s : Shared) (H : Hp) (E : XK) : Cx := cxOf (L2.CX B.P B.w) B.P B.w B.K B.mg base N qual sc f cdv A outer s H E
abbrev wxF (E : XK) : WX := fun cls d _ H => E cls d H
/-- a def by its body's conditions over data -/
theorem fnok_of {x qual : Str} {pm : Arguments} {bd : List Stmt} {sc : Scope} {dvs : List V} {kws : List (Str × V)} {f : Addr} {fd : FuncData} {N ps : List Str} {ms : List Bool} {sp : SpM} {T : DTS} {k : Nat} (F : FunD B.K x qual pm bd sc dvs kws f fd) (S : FnScope N ps sc)
    (body : ∀ (cdv : Value) (A : Around) (outer : List Env) (s : Shared) (H : Hp) (E : XK), Room k (cxF B base N qual sc f cdv A outer s H E).A → Takes (cxF B base N qual sc f cdv A outer s H E) (wxF E) →
      PassesOwn (model B.P B.w) (cxF B base N qual sc f cdv A outer s H E).A (cxF B base N qual sc f cdv A outer s H E).env (cxF B base N qual sc f cdv A outer s H E).xe →
      DSs (cxF B base N qual sc f cdv A outer s H E) (wxF E) bd T)
    (spec : ∀ ds M Q E, sp ds M Q E → T (endsOf Q E) (startE ms N.length ds) M) (hl : ms.length = ps.length := by rfl) : FnB B base (k + 1) f fd ps ms sp := by
  refine F.ok S (fun vs H Q E h => ?_) (fun cdv A outer s H vs Q E hr h => ?_)
  · obtain ⟨W, m, M, ds, Qd, Ed, _, _, hA, _⟩ := h
    rw [ms_len hA, hl]
  · obtain ⟨W, m, M, ds, Qd, Ed, rfl, mk, hA, hsp, h1, h2⟩ := h
    obtain ⟨t, p, r⟩ := body cdv A outer s (cat W.H m) E hr (takes_of rfl rfl rfl rfl) (passes_of rfl)
    refine ⟨t, p, ?_⟩
    have hp : ps.length ≤ N.length := by
      have := congrArg List.length S.pre
      rw [List.length_take] at this
      omega
    refine r W W m _ _ M _ _ (rel_start hA (by rw [ms_len hA, hl]; exact hp)) mk (spec ds M Qd Ed hsp) ⟨fun W' m' σ ρ M' R mk' q => ?_, fun d v W' m' M' le mk' rv q => ?_, fun _ _ _ _ _ _ _ q => q.elim, fun _ _ _ _ _ _ _ q => q.elim, fun C W' m' σ ρ M' R mk' q => ?_⟩
    · exact h1 .non .non W' m' M' q R.le mk' .non
    · exact h1 d v W' m' M' q le mk' rv
    · exact h2 C W' m' M' q R.le mk'
theorem Fn.mk' {x qual : Str} {pm : Arguments} {bd : List Stmt} {sc : Scope} {f : Addr} {fd : FuncData} {ps : List Str} {ms : List Bool} {sp : SpM} {k : Nat} (F : FunD B.K x qual pm bd sc [] [] f fd) (hm : B.mg x = some (.ref f)) (hb : Binds B.K fd ps []) (G : FnB B base k f fd ps ms sp) : Fn B base k x ms sp := ⟨f, fd, ps, G, hm, F.kp, hb⟩
end
/-! ### the law's end -/
section
variable {l : PySem.W.OpenLaw} {k : Nat} {q : Program} {loose : List Str} {XP : (Str → Option Value) → Heap → Prop} {YP : World → Heap → Prop} {d : DefRec} {x : Str}
/-- the law walked: its def keeps the promise of a law -/
theorem walkZ (hn : l.most = some 63) (hdf : d.params.defaults = []) (hr : Room k callerA)
    (F : ∀ (w : World) (mg : Str → Option Value) (fa : Addr) (h : Heap), YP w h → h.Ns mainGlobals mg → mg d.name = some (.ref fa) → ∃ (K : PySem.W.Frag) (fd : FuncData) (sp : Sp), K.In h ∧ (∀ (s : Shared) (u : Value), BindsTo s fd ⟨[u], []⟩ [(x, u)]) ∧
      (∀ (H : Hp) (a : Addr) (ns : List Int), ns.length ≤ 63 → SqL K H a (ns.map V.int) → sp [.ref a] H (fun v _ => v = .bl true) fun _ _ _ => False) ∧
      ∀ base : Heap, K.In base → base.Ns mainGlobals mg → FnOk l.prog w K mg base (L2.CX l.prog w) k fa fd [x] sp) :
    PySem.W.WalkO q loose XP YP l.row.toRowW d [] (fun f vs => PySem.call f vs) := by
  refine Att.attach_call hn hdf fun w s₀ s₁ mg mb fa o pm cd doc a vs ns G Y ho hd hcd hmg hobj hints hlen hg => ?_
  obtain ⟨K, fd, sp, KX, hb, hsp, hF⟩ := F w mg fa _ Y G.T.g hmg
  refine law_call KX G.T.g G.T.b G.T.builtins G.T.nolimit hg hobj hints (Nat.le_trans hlen (by decide)) hr hF hb (fun H _ hS => hsp H a ns hlen hS) fun H e s' z => ?_
  obtain ⟨_, _, _, _, _, _, _, _, _, _, _, _, z⟩ := z
  exact z
end
def spLaw : SpM := pur fun ds Q _ => ∃ ns : List Int, ds = [.lst (ns.map .int)] ∧ ns.length ≤ 63 ∧ Q (.bl true)
def M0 : Mu := fun _ => none
theorem law_ok {B : Bx} (H : Hp) (a : Addr) (ns : List Int) (hl : ns.length ≤ 63) (hS : SqL B.K H a (ns.map V.int)) : liftSp B [false] spLaw [.ref a] H (fun v _ => v = .bl true) fun _ _ _ => False := by
  refine ⟨⟨H, H, Ex.refl H⟩, fun _ => none, M0, [.lst (ns.map .int)], fun d _ => d = .bl true, fun _ _ => False, ?_, ⟨fun _ _ => rfl, fun _ => trivial⟩, .dat (.lst hS (RpAll.of_ints ns)) .nil, ⟨ns, rfl, hl, rfl⟩, fun d v W' m' M' q le k hv => ?_, fun _ _ _ _ z => z.elim⟩
  · funext b
    show cat H (fun _ => none) b = H b
    unfold cat; cases H b <;> rfl
  · subst q
    cases hv
    rfl
end Z

namespace Z
open PySem PySem.Spec PyProof.Rows L2
open Evl (Ex)

/-! ### lists that change -/
section
variable {B : Bx} {W0 W : Wd} {σ : L2.St} {ρ : List Ent} {M : Mu} {m : Hp}
theorem MOk.relay (h : MOk B W M m) {a : Addr} {o o' : HO} (ha : W.H a = some o) (hF : W.F a = none) : MOk B (W.lay a o' hF) M m := ⟨fun b hb => by
    by_cases z : b = a
    · subst z; exact h.dj b (by rw [ha]; exact fun y => by cases y)
    · refine h.dj b ?_
      have e : (W.lay a o' hF).H b = W.H b := upd_ne z
      rw [← e]; exact hb, fun b => h.ok b⟩
theorem Rel.own (R : Rel B W0 W σ ρ) {i : Nat} {ds : List D} (z : ga ρ i = .own ds) : ∃ a vs, σ[i]? = some (some (.ref a)) ∧ W.H a = some (.lst vs) ∧ W.F a = none ∧ RpAll B W.F vs ds ∧
    ∀ (hF : W.F a = none) vs' ds', RpAll B W.F vs' ds' → Rel B W0 (W.lay a (.lst vs') hF) σ (ρ.set i (.own ds')) := by
  obtain ⟨le, len, ad, h3, h4⟩ := R
  have q := h4 i
  rw [z] at q
  obtain ⟨vs, q1, q2, q3, q4, q5⟩ := q
  have hl : i < ρ.length := ga_lt (by rw [z]; exact fun y => by cases y)
  refine ⟨ad i, vs, q1, q2, q3, q5, fun hF vs' ds' hv => ⟨⟨le.f, fun a o h => ?_, le.n⟩, by rw [List.length_set]; exact len, ad, fun j k hjk hj hk => ?_, fun j => ?_⟩⟩
  · show upd W.H (ad i) _ a = some o
    rw [upd_ne (fun y => by subst y; rw [q4] at h; cases h)]; exact le.h a o h
  · rw [ga_set, if_pos hl] at hj hk
    have oj : (ga ρ j).ownd = true := by
      by_cases y : i = j
      · subst y; rw [z]; rfl
      · rw [if_neg y] at hj; exact hj
    have ok : (ga ρ k).ownd = true := by
      by_cases y : i = k
      · subst y; rw [z]; rfl
      · rw [if_neg y] at hk; exact hk
    exact h3 j k hjk oj ok
  · rw [ga_set]
    by_cases y : i = j
    · subst y
      rw [if_pos rfl, if_pos hl]
      exact ⟨vs', q1, upd_same, q3, q4, hv⟩
    · rw [if_neg y]
      have q := h4 j
      have ne : (ga ρ j).ownd = true → ad j ≠ ad i := fun oj => h3 j i (Ne.symm y) oj (by rw [z]; rfl)
      cases u : ga ρ j with
      | un => trivial
      | dat d => rw [u] at q; exact q
      | bor d => rw [u] at q; exact q
      | own es => rw [u] at q ne; obtain ⟨us, p1, p2, p3, p4, p5⟩ := q; exact ⟨us, p1, (upd_ne (ne rfl)).trans p2, p3, p4, p5⟩
      | dk t ks =>
        rw [u] at q ne
        obtain ⟨p1, p2, p3, p4⟩ := q
        refine ⟨p1, ?_, p3, p4⟩
        have e : (W.lay (ad i) (.lst vs') hF).H (ad j) = W.H (ad j) := upd_ne (ne rfl)
        rw [e]; exact p2
end
/-- what a list's method does: the store, what the list holds, the arguments; what is told, what it holds then -/
abbrev LM := Mu → List D → List D → (D → List D → Prop) → Prop
def RfL (B : Bx) (ms : List Bool) (r : V → List V → Hp → VK → Prop) (o : LM) : Prop := ∀ (W : Wd) (m : Hp) (M : Mu) (a : Addr) (vs : List V) (ds : List D) (us : List V) (as : List D) (Q : VK) (Qd : D → List D → Prop), MOk B W M m → cat W.H m a = some (.lst vs) → RpAll B W.F vs ds → ArgsOk B W ms us as → o M ds as Qd →
  (∀ d v ds' vs', Qd d ds' → Rp B W.F v d → RpAll B W.F vs' ds' → Q v (upd (cat W.H m) a (.lst vs'))) → r (.ref a) us (cat W.H m) Q
section
variable {X : Cx} {wx : WX} {e a b c : Expr} {es : List Expr} {T Ta Tb : DTE} {R : DTA} {pos : Pos}
/-- is a list at a -/
def isLst : Option Ob → Prop
  | some (.lst _) => True
  | _ => False
/-- ahead of the arguments -/
def lmPre (ρ : List Ent) (M : Mu) (i : Nat) : Prop := match ga ρ i with
  | .own _ => True
  | .dat (.ref a) => isLst (M a)
  | _ => False
/-- at the list: an own one, or one of the store -/
def lmAt (o : LM) (ρ : List Ent) (M : Mu) (i : Nat) (as : List D) (K : D → List Ent → Mu → Prop) : Prop := match ga ρ i with
  | .own ds => o M ds as fun d ds' => K d (ρ.set i (.own ds')) M
  | .dat (.ref a) => (match M a with
    | some (.lst ds) => o M ds as fun d ds' => K d ρ (updM M a (.lst ds'))
    | _ => False)
  | _ => False
/-- x.m(..): the name's list changes -/
def dLmut (o : LM) (i : Nat) (R : DTA) (k : D → DEnds → List Ent → Mu → Prop) : DTS := fun DD ρ M => lmPre ρ M i ∧ R ρ M (fun as M' => lmAt o ρ M' i as fun d => k d DD) fun C => DD.ex C ρ
def kNx : D → DEnds → List Ent → Mu → Prop := fun _ DD ρ M => DD.nx ρ M
def kSet (j : Nat) : D → DEnds → List Ent → Mu → Prop := fun d DD ρ M => DD.nx (ρ.set j (.dat d)) M
theorem lmPre_of {B : Bx} {W0 W : Wd} {m : Hp} {σ : L2.St} {ρ : List Ent} {M : Mu} {i : Nat} (R : Rel B W0 W σ ρ) (mk : MOk B W M m) (h : lmPre ρ M i) : ∃ a vs, σ[i]? = some (some (.ref a)) ∧ cat W.H m a = some (.lst vs) := by
  unfold lmPre at h
  split at h
  · rename_i ds z
    obtain ⟨a, vs, s1, s2, _⟩ := R.own z
    exact ⟨a, vs, s1, cat_some s2⟩
  · rename_i a z
    obtain ⟨v, s1, s2⟩ := R.dat z
    cases s2
    have ob := mk.ok a
    cases y : M a with
    | none => rw [y] at h; exact h.elim
    | some u =>
      rw [y] at h ob
      cases u with
      | lst ds => obtain ⟨vs, o1, o2⟩ := ob; exact ⟨a, vs, s1, (cat_none (mk.hn y)).trans o1⟩
      | _ => exact h.elim
  · exact h.elim
/-- the heart: at the list -/
theorem rf_lmut {B : Bx} {ms : List Bool} {r : V → List V → Hp → VK → Prop} {o : LM} (h : RfL B ms r o) {W0 W : Wd} {m : Hp} {σ : L2.St} {ρ : List Ent} {M : Mu} {i : Nat} {us : List V} {as : List D} {Q : VK} {K : D → List Ent → Mu → Prop} (R : Rel B W0 W σ ρ) (mk : MOk B W M m) (ha : ArgsOk B W ms us as)
    (q : lmAt o ρ M i as K)
    (k : ∀ d v W' m' ρ' M', K d ρ' M' → Rel B W0 W' σ ρ' → MOk B W' M' m' → Rp B W'.F v d → Q v (cat W'.H m')) : ∃ a vs, σ[i]? = some (some (.ref a)) ∧ cat W.H m a = some (.lst vs) ∧ r (.ref a) us (cat W.H m) Q := by
  unfold lmAt at q
  split at q
  · rename_i ds z
    obtain ⟨a, vs, s1, s2, s3, s4, s5⟩ := R.own z
    refine ⟨a, vs, s1, cat_some s2, h W m M a vs ds us as Q _ mk (cat_some s2) s4 ha q fun d v ds' vs' q' rv rvs => ?_⟩
    exact cat_q (P := Q v) (k d v (W.lay a (.lst vs') s3) m _ M q' (s5 s3 vs' ds' rvs) (mk.relay s2 s3) rv)
  · rename_i a z
    obtain ⟨v, s1, s2⟩ := R.dat z
    cases s2
    split at q
    · rename_i ds y
      have hn := mk.hn y
      have ob := mk.ok a
      rw [y] at ob
      obtain ⟨vs, o1, o2⟩ := ob
      have hc : cat W.H m a = some (.lst vs) := (cat_none hn).trans o1
      refine ⟨a, vs, s1, hc, h W m M a vs ds us as Q _ mk hc o2 ha q fun d v ds' vs' q' rv rvs => ?_⟩
      exact cat_qm (P := Q v) hn (k d v W (upd m a (.lst vs')) ρ _ q' R (mk.put hn ⟨vs', rfl, rvs⟩) rv)
    · exact q.elim
  · exact q.elim
theorem ty_list {K : PySem.W.Frag} {a : Addr} {vs : List V} {H : Hp} (h : H a = some (.lst vs)) : tyV K "list" (.ref a) H := .inl ⟨rfl, vs, .inl (.inl h)⟩
variable {i j : Nat} {ms : List Bool} {r : V → List V → Hp → VK → Prop} {o : LM} {ce : Expr} {k : D → DEnds → List Ent → Mu → Prop}
theorem rf_lmutE {B : Bx} {t : TA} (hr : RfL B ms r o) (ra : RfM B wx ms t R) {W0 W : Wd} {m : Hp} {σ : L2.St} {ρ : List Ent} {M : Mu} {Q : VK} {DD : DEnds} (Re : Rel B W0 W σ ρ) (mk : MOk B W M m) (h : dLmut o i R k DD ρ M)
    (h2 : ∀ d v W' m' ρ' M', k d DD ρ' M' → Rel B W0 W' σ ρ' → MOk B W' M' m' → Rp B W'.F v d → Q v (cat W'.H m')) (h3 : ExK B wx W σ fun C => DD.ex C ρ) : tBM B.K "list" r (tVar i) t σ (cat W.H m) Q := by
  obtain ⟨hp, h⟩ := h
  obtain ⟨a, vs, s1, s2⟩ := lmPre_of Re mk hp
  refine ⟨_, s1, ty_list s2, ra W0 W m σ ρ M _ _ _ Re mk h (fun ds us W' m' M' q le mk' hv => ?_) h3⟩
  obtain ⟨a', vs', s1', s2', s3⟩ := rf_lmut (B := B) (K := fun d => k d DD) (Q := Q) hr (Re.mono le) mk' hv q h2
  rw [s1] at s1'
  cases s1'
  exact s3
theorem rf_lmut0 {B : Bx} (hr : RfL B [] r o) {W0 W : Wd} {m : Hp} {σ : L2.St} {ρ : List Ent} {M : Mu} {Q : VK} {DD : DEnds} (Re : Rel B W0 W σ ρ) (mk : MOk B W M m) (h : dLmut o i dNil k DD ρ M)
    (h2 : ∀ d v W' m' ρ' M', k d DD ρ' M' → Rel B W0 W' σ ρ' → MOk B W' M' m' → Rp B W'.F v d → Q v (cat W'.H m')) : tBM0 B.K "list" r (tVar i) σ (cat W.H m) Q := by
  obtain ⟨hp, h⟩ := h
  obtain ⟨a, vs, s1, s2, s3⟩ := rf_lmut (B := B) (K := fun d => k d DD) (Q := Q) hr Re mk .nil h h2
  exact ⟨_, s1, ty_list s2, s3⟩
/-- x.m(..) as a statement -/
theorem ds_lmut (pb : ∀ {t}, PA X (e :: es) t → PE X ce (tBM X.K "list" r (tVar i) t)) (hr : RfL (bx X) ms r o) (ha : DM X wx ms (e :: es) R) (hs : swapsWith ce none pos.line X.env = pure false := by rfl) : DS X wx (.Expr ce pos) (dLmut o i R kNx) := by
  obtain ⟨t, p, ra⟩ := ha
  exact ⟨_, ps_expr (pb p) hs, fun W0 W m σ ρ M D DD Re mk h kk => rf_lmutE hr ra Re mk h (fun d v W' m' ρ' M' q R' mk' rv => kk.nx W' m' σ ρ' M' R' mk' q) fun C W' m' M' q le mk' => kk.ex C W' m' σ ρ M' (Re.mono le) mk' q⟩
theorem ds_lset0 {y : Str} {pos' : Pos} (hN : X.N.Nodup) (pb : PE X ce (tBM0 X.K "list" r (tVar i))) (hr : RfL (bx X) [] r o) (hi : X.N[j]? = some y := by rfl) (hx : Loc X.env.scope y := by first | exact Or.inl rfl | exact Or.inr rfl)
    (hs : swapsWith ce (some (.Name y pos')) pos.line X.env = pure false := by rfl) (hf : X.fn y = true ∨ X.env.scope.names.lookup y = some .local := by first | exact .inl rfl | exact .inr rfl) : DS X wx (.Assign [.Name y pos'] ce pos) (dLmut o i dNil (kSet j)) :=
  ⟨_, ps_set hN hi hx pb hs hf, fun W0 W m σ ρ M D DD Re mk h kk => rf_lmut0 hr Re mk h fun d v W' m' ρ' M' q R' mk' rv => kk.nx W' m' _ _ M' (R'.set rv) mk' q⟩
end
/-! ### the methods -/
theorem iaddW (l b : Addr) (items items2 : Array Value) (n n2 : Nat) (dd2 : Option Addr) (sl2 : Array (Option Value)) (h0 : ¬(!items.isEmpty && Builtin.List.listTooLong (items.size + items2.size)) = true) (h1 : items.size ≤ sizeLine) (h2 : items.size + items2.size ≤ sizeLine + 1) :
    Meets (Builtin.«list.__iadd__» ⟨[.ref l, .ref b], []⟩) (fun _ R s => s.heap.get? l = some { cls := .type "list", data := .seq items n } ∧ s.heap.get? b = some { cls := .type "list", dict := dd2, data := .seq items2 n2, slots := sl2 } ∧ R (.ok (.ret (.ref l))) { s with heap := s.heap.update l (Obj.mapSeq fun x => x ++ items2), toks := s.toks }) :=
  .of_wp fun prog w A R s h => by
    obtain ⟨hp, g, d, tk, os⟩ := s
    obtain ⟨hl, hb, h⟩ := h
    have f1 := AutoSeq1.idx_int
    have hz' : (items ++ items2).size ≤ sizeLine + 1 := by rw [Array.size_append]; exact h2
    wp_walk using (wpAny_updateSeq hl rfl (hz := h1) (_hz' := hz')), wpAny_loadPart' hl, wpAny_loadPart' hb
    exact ⟨_, rfl, h⟩
theorem ip_fill : fillsInplaceSlot (.type "list") "add" (Operator.Add == .Add) = pure false := by kernel_rfl
theorem ip_seq : seqSlot? (.type "list") (dunderI "add") = pure (some (.builtin "list.__iadd__")) := by kernel_rfl
theorem inplace_list {prog : Program} {w : World} {A : Around} {E : Value → Shared → Prop} {s : Shared} {a b : Value} {Q : Value → Shared → Prop} (ha : s.TypeIs a "list") (hb : s.TypeIs b "list") (hc : wpAny (model prog w) A (call (.builtin "list.__iadd__") [a, b]) Q E s) : wpAny (model prog w) A (inplaceOp .Add a b) Q E s := by
  unfold inplaceOp
  refine wpAny_holding ?_
  refine wpAny_bind (wpAny_typeOf ha (wpAny_bind (wpAny_of_eq ip_fill ?_)))
  show wpAny _ A (if false = true then _ else _) Q E s
  rw [if_neg Bool.false_ne_true]
  refine wpAny_bind (wpAny_binaryOp1_none (nm := "add") ha hb noFill_list_add ?_)
  refine wpAny_bind (wpAny_of_eq ip_seq ?_)
  exact wpAny_bind (wpAny_rule hc)
/-- xs += ys -/
def rIaddS (K : PySem.W.Frag) : V → V → Hp → VK → Prop := fun x y H Q => ∃ l b xs zs, x = .ref l ∧ y = .ref b ∧ H l = some (.lst xs) ∧ SqL K H b zs ∧ xs.length + zs.length ≤ sizeLine ∧ Q (.ref l) (upd H l (.lst (xs ++ zs)))
theorem ip_cat {X : Cx} : PIp X .Add (rIaddS X.K) := by
  intro pins s σ H x y v u Q I rx ry h
  obtain ⟨l, b, xs, zs, rfl, rfl, hH, hB, hz, q⟩ := h
  cases rx
  cases ry
  obtain ⟨z, its, n, r, hl, e⟩ := I.lstM hH
  obtain ⟨its2, r2, pl2, z2⟩ := I.list hB
  have hl2 := r2.length
  obtain ⟨⟨cls2, dd2, data2, sl2⟩, e2, hc2, n2, hd2⟩ := id pl2.isList
  simp only at hc2 hd2
  subst hc2 hd2
  have hsz : its.toArray.size + its2.toArray.size ≤ sizeLine := by simp; omega
  have hlong : ¬ (!its.toArray.isEmpty && Builtin.List.listTooLong (its.toArray.size + its2.toArray.size)) = true := by rw [notLongL hsz, Bool.and_false]; exact Bool.false_ne_true
  refine inplace_list ⟨_, e, rfl⟩ ⟨_, e2, rfl⟩ (call_meets PySem.F.slot_list_iadd ⟨_, e, rfl⟩ PySem.F.entry_list_iadd (PySem.F.args_list_iadd_2 _ _) (iaddW l b its.toArray its2.toArray n n2 dd2 sl2 hlong (by simp; omega) (by omega)) ⟨e, e2, ?_⟩)
  refine ⟨.ref l, _, I.lset (its' := its ++ its2) hH e (by simp) (r.append r2) ?_, rfl, q⟩
  rw [List.length_append]
  omega
/-- xs.extend(ys), ys any list -/
def rExtendS (K : PySem.W.Frag) : V → List V → Hp → VK → Prop := fun x vs H Q => ∃ l b xs zs, x = .ref l ∧ vs = [.ref b] ∧ H l = some (.lst xs) ∧ SqL K H b zs ∧ xs.length + zs.length ≤ sizeLine ∧ Q .non (upd H l (.lst (xs ++ zs)))
section
variable {B : Bx}
def lmAppend : LM := fun _ ds as Q => match as with | [d] => ds.length < sizeLine ∧ Q .non (ds ++ [d]) | _ => False
theorem rf_append : RfL B [false] rAppend lmAppend := by
  intro W m M a vs ds us as Q Qd mk ha rv hu h k
  have hu := hu.all rfl
  unfold lmAppend at h
  split at h
  · rename_i d
    cases hu with
    | cons r1 t1 =>
      cases t1
      exact ⟨a, vs, _, rfl, rfl, ha, by rw [rv.length]; exact h.1, k _ _ _ _ h.2 .non (rv.append (.cons r1 .nil))⟩
  · exact h.elim
def lmExtend : LM := fun M ds as Q => match as with
  | [x] => (match drf M x with
    | .lst es => ds.length + es.length ≤ sizeLine ∧ Q .non (ds ++ es)
    | _ => False)
  | _ => False
theorem rf_extend : RfL B [true] (rExtendS B.K) lmExtend := by
  intro W m M a vs ds us as Q Qd mk ha rv hu h k
  have hu := hu.reads mk
  unfold lmExtend at h
  split at h
  · rename_i x
    cases hu with
    | cons r1 t1 =>
      cases t1
      split at h
      · rename_i es z
        rw [z] at r1
        obtain ⟨b, ws, rfl, s1, s2⟩ := r1
        exact ⟨a, b, vs, ws, rfl, rfl, ha, s1, by rw [rv.length, s2.length]; exact h.1, k _ _ _ _ h.2 .non (rv.append s2)⟩
      · exact h.elim
  · exact h.elim
def lmPop : LM := fun _ ds as Q => match as with | [] => ∃ d, ds.getLast? = some d ∧ Q d ds.dropLast | _ => False
theorem rf_pop : RfL B [] rPop lmPop := by
  intro W m M a vs ds us as Q Qd mk ha rv hu h k
  cases hu
  obtain ⟨d, e, h⟩ := h
  rw [List.getLast?_eq_getElem?] at e
  obtain ⟨v, e2, r⟩ := rv.get e
  exact ⟨a, vs, v, rfl, rfl, ha, by rw [rv.length]; exact e2, k _ _ _ _ h r rv.dropLast⟩
def lmPopAt : LM := fun _ ds as Q => match as with | [.int i] => 0 ≤ i ∧ i < 2 ^ 63 ∧ ∃ d, ds[i.toNat]? = some d ∧ Q d (ds.eraseIdx i.toNat) | _ => False
def lmClear : LM := fun _ ds as Q => match as with | [] => Q .non [] | _ => False
end
end Z

namespace Z
open PySem PySem.Spec PyProof.Rows L2
open Evl (Ex)

/-! ### comprehensions -/
section
variable {ι : Type} {Xf : ι → Cx} {B : Bx} {wx : WX}
theorem DE.unif {e : Expr} {T : DTE} (hb : ∀ i, bx (Xf i) = B) (h : ∀ i, DE (Xf i) wx e T) : ∃ t, (∀ i, PE (Xf i) e t) ∧ RfE B wx t T := by
  refine ⟨fun σ H Q => ∀ i pins s, Inv (Xf i) pins σ H s → wpAny (model (Xf i).prog (Xf i).w) (Xf i).A (eval e (Xf i).env) (EP (Xf i) pins σ Q) (Xf i).xe s, fun i => ⟨fun pins s σ H Q I h => h i pins s I⟩, fun W0 W m σ ρ M Q Qd Ed R k h1 h2 h3 i pins s I => ?_⟩
  obtain ⟨t, p, r⟩ := h i
  rw [hb i] at r
  exact p.run pins s σ _ Q I (r W0 W m σ ρ M Q Qd Ed R k h1 h2 h3)
/-- the tests of a comprehension -/
def DTs (X : Cx) (wx : WX) (cs : List Expr) (T : DTT) : Prop := ∃ t, PTs X cs t ∧ RfT (bx X) wx t T
def dYes : DTT := fun _ M Q _ => Q true M
theorem dts_nil {X : Cx} : DTs X wx [] dYes := ⟨_, pts_nil, fun W0 W m σ ρ M Q Qd Ed R k h1 h2 h3 => h2 true W m M h1 (Wd.le.refl W) k⟩
theorem dts_one {X : Cx} {c : Expr} {T : DTT} (h : DT X wx c T) : DTs X wx [c] T := by
  obtain ⟨t, p, r⟩ := h
  exact ⟨t, pts_one p, r⟩
theorem DTs.unif {cs : List Expr} {T : DTT} (hb : ∀ i, bx (Xf i) = B) (h : ∀ i, DTs (Xf i) wx cs T) : ∃ t, (∀ i, PTs (Xf i) cs t) ∧ RfT B wx t T := by
  refine ⟨fun σ H Q => ∀ i t, PTs (Xf i) cs t → RfT B wx t T → t σ H Q, fun i => ?_, fun W0 W m σ ρ M Q Qd Ed R k h1 h2 h3 i t _ r => r W0 W m σ ρ M Q Qd Ed R k h1 h2 h3⟩
  obtain ⟨t, p, r⟩ := h i
  rw [hb i] at r
  exact ⟨fun pins s σ H Q I h => p.run pins s σ H Q I (h i t p r)⟩
/-- a target that sets the slots vs alone -/
def RfGk (B : Bx) (g : TG) (G : DTG) (ws : List Nat) : Prop := ∀ (W0 W : Wd) (m : Hp) (σ : L2.St) (ρ : List Ent) (v : V) (d : D) (Q : L2.St → Hp → Prop) (Qd : List Ent → Prop), Rel B W0 W σ ρ → Rp B W.F v d → G d ρ Qd → (∀ σ' ρ', Rel B W0 W σ' ρ' → wipe σ' ws = wipe σ ws → Qd ρ' → Q σ' (cat W.H m)) → g v σ (cat W.H m) Q
def DGk (X : Cx) (tg : Expr) (G : DTG) (ws : List Nat) : Prop := ∃ g, PG X tg g ∧ RfGk (bx X) g G ws
def RfGsk (B : Bx) (g : TGs) (G : DTGs) (ws : List Nat) : Prop := ∀ (W0 W : Wd) (m : Hp) (σ : L2.St) (ρ : List Ent) (v : List V) (d : List D) (Q : L2.St → Hp → Prop) (Qd : List Ent → Prop), Rel B W0 W σ ρ → RpAll B W.F v d → G d ρ Qd → (∀ σ' ρ', Rel B W0 W σ' ρ' → wipe σ' ws = wipe σ ws → Qd ρ' → Q σ' (cat W.H m)) → g v σ (cat W.H m) Q
def DGsk (X : Cx) (tg : List Expr) (G : DTGs) (ws : List Nat) : Prop := ∃ g, PGs X tg g ∧ RfGsk (bx X) g G ws
theorem wipe_get {σ : L2.St} {j : Nat} : ∀ {ws : List Nat}, (wipe σ ws)[j]? = if j ∈ ws then (if j < σ.length then some none else none) else σ[j]?
  | [] => by simp [wipe]
  | w :: ws => by
    show ((wipe σ ws).set w none)[j]? = _
    rw [List.getElem?_set, wipe_get (ws := ws), wipe_length]
    by_cases h : w = j
    · subst h; simp
    · rw [if_neg h]
      have : (j ∈ w :: ws) ↔ j ∈ ws := by simp; exact fun z => absurd z.symm h
      simp only [this]
theorem wipe_set {σ : L2.St} {i : Nat} {v : Option V} {ws : List Nat} (h : i ∈ ws) : wipe (σ.set i v) ws = wipe σ ws := by
  refine List.ext_getElem? fun j => ?_
  rw [wipe_get, wipe_get, List.length_set]
  by_cases z : j ∈ ws
  · rw [if_pos z, if_pos z]
  · rw [if_neg z, if_neg z, List.getElem?_set_ne (fun y => z (by rw [← y]; exact h))]
theorem wipe_twice {σ : L2.St} {ws : List Nat} : wipe (wipe σ ws) ws = wipe σ ws := by
  refine List.ext_getElem? fun j => ?_
  rw [wipe_get, wipe_get, wipe_length]
  split <;> rfl
theorem dgk_name {X : Cx} {pos : Pos} {i : Nat} {x : Str} {ws : List Nat} (hN : X.N.Nodup) (hw : i ∈ ws := by decide) (hi : X.N[i]? = some x := by rfl) (hx : Loc X.env.scope x := by first | exact Or.inl rfl | exact Or.inr rfl) (hf : X.fn x = true ∨ X.env.scope.names.lookup x = some .local := by first | exact .inl rfl | exact .inr rfl) : DGk X (.Name x pos) (dgName i) ws :=
  ⟨_, pg_name hN hi hx hf, fun W0 W m σ ρ v d Q Qd R r h k => k _ _ (R.set r) (wipe_set hw) h⟩
theorem dgsk_nil {X : Cx} {ws : List Nat} : DGsk X [] dgNil ws := ⟨_, pgs_nil, fun W0 W m σ ρ v d Q Qd R r h k => by
  obtain ⟨rfl, h⟩ := h
  cases r
  exact ⟨rfl, k _ _ R rfl h⟩⟩
theorem dgsk_cons {X : Cx} {e : Expr} {es : List Expr} {G : DTG} {Gs : DTGs} {ws : List Nat} (h1 : DGk X e G ws) (h2 : DGsk X es Gs ws) (hs : (assignEach (e :: es) X.env).map (·.2) = assign e X.env :: (assignEach es X.env).map (·.2) := by rfl) : DGsk X (e :: es) (dgCons G Gs) ws := by
  obtain ⟨g, p, r⟩ := h1
  obtain ⟨g', p', r'⟩ := h2
  refine ⟨_, pgs_cons p p' hs, fun W0 W m σ ρ v d Q Qd R rr h k => ?_⟩
  cases rr with
  | nil => exact h.elim
  | cons q t => exact ⟨_, _, rfl, r W0 W m σ ρ _ _ _ _ R q h fun σ' ρ' R' w' h' => r' W0 W m σ' ρ' _ _ _ _ R' t h' fun σ2 ρ2 R2 w2 h2 => k σ2 ρ2 R2 (w2.trans w') h2⟩
theorem dgk_tup {X : Cx} {es : List Expr} {Gs : DTGs} {ws : List Nat} {pos : Pos} {k n : Nat} (hc : X.calm = true) (h : DGsk X es Gs ws) (hn : (assignEach es X.env).length = n := by rfl) (hst : (assignEach es X.env).findIdx? (·.1) = none := by rfl) : DGk X (.Tuple es k pos) (dgTup n Gs) ws := by
  obtain ⟨g, p, r⟩ := h
  refine ⟨_, pg_tup hc p hn hst, fun W0 W m σ ρ v d Q Qd R rr h k => ?_⟩
  cases d with
  | tup ds =>
    cases rr with
    | tup h1 h2 => exact ⟨_, _, rfl, Evl.ex_t (W.ok.trans (cat_ex W.H m)) h1, by rw [h2.length]; exact h.1, r W0 W m σ ρ _ _ _ _ R h2 h.2 k⟩
  | _ => exact h.elim
theorem DGk.unif {tg : Expr} {G : DTG} {ws : List Nat} (hb : ∀ i, bx (Xf i) = B) (h : ∀ i, DGk (Xf i) tg G ws) : ∃ g, (∀ i, PG (Xf i) tg g) ∧ RfGk B g G ws := by
  refine ⟨fun v σ H Q => ∀ i g, PG (Xf i) tg g → RfGk B g G ws → g v σ H Q, fun i => ?_, fun W0 W m σ ρ v d Q Qd R r h1 h2 i g _ rr => rr W0 W m σ ρ v d Q Qd R r h1 h2⟩
  obtain ⟨g, p, r⟩ := h i
  rw [hb i] at r
  exact ⟨fun pins s σ H v u Q I rv h => p.run pins s σ H v u Q I rv (h i g p r)⟩
end
/-- the slots ws forgotten -/
def wipeE (ρ : List Ent) : List Nat → List Ent
  | [] => ρ
  | v :: vs => (wipeE ρ vs).set v .un
theorem Rel.wipe {B : Bx} {W0 W : Wd} {σ : L2.St} {ρ : List Ent} (R : Rel B W0 W σ ρ) : ∀ ws : List Nat, Rel B W0 W (L2.wipe σ ws) (wipeE ρ ws)
  | [] => R
  | _ :: ws => (R.wipe ws).unset
/-- [elt for target in xs if test]: a word of the turn and the list so far -/
def dLcI (G : DTG) (U : DTT) (T : DTE) (ws : List Nat) (xs : List D) (ρ : List Ent) (M : Mu) (Q : List D → Mu → Prop) : Prop := ∃ I : Nat → List D → Mu → Prop, I 0 [] M ∧
  (∀ i x, xs[i]? = some x → ∀ acc M', I i acc M' → acc.length < sizeLine ∧ G x (wipeE ρ ws) fun ρ2 => U ρ2 M' (fun b M2 => if b = true then T ρ2 M2 (fun d M3 => I (i + 1) (acc ++ [d]) M3) (fun _ _ => False) else I (i + 1) acc M2) (fun _ _ => False)) ∧ ∀ acc M', I xs.length acc M' → Q acc M'
def dLc (Ti : DTA) (G : DTG) (U : DTT) (T : DTE) (ws : List Nat) : DTA := fun ρ M Q E => Ti ρ M (fun xs M' => dLcI G U T ws xs ρ M' Q) E
section
variable {X : Cx} {wx : WX} {elt tg iter : Expr} {ifs : List Expr} {scope : Scope} {own : List (Str × Nat)} {pos : Pos} {Ti : DTA} {G : DTG} {U : DTT} {T : DTE}
/-- the frames of a comprehension -/
abbrev blkF (X : Cx) (scope : Scope) (z : Shared × Hp × Addr × List (Str × Addr) × List Addr) : Cx := X.blk z.1 z.2.1 scope (compEnvC scope z.2.2.2.1 z.2.2.1 X.env) z.2.2.2.2
abbrev wx0 : WX := fun _ _ _ _ => False
theorem le_lay2 {W1 W : Wd} {p : Addr} {o : HO} (le : W1.le W) (hn : W1.H p = none) (hF : W.F p = none) : W1.le (W.lay p o hF) := ⟨le.f, fun a u h => by
    show upd W.H p o a = some u
    rw [upd_ne (fun y => by subst y; rw [hn] at h; cases h)]; exact le.h a u h, le.n⟩
theorem rf_lc {B : Bx} {wi : TI} {g : TG} {tt : TT} {te : TE} {ws : List Nat} (ri : RfI B wx wi Ti) (rg : RfGk B g G ws) (rt : RfT B wx0 tt U) (re : RfE B wx0 te T) : RfN B wx (tLc wi g tt te ws) (dLc Ti G U T ws) := by
  refine fun W0 W m σ ρ M Q Qd Ed R mk h1 h2 h3 => ri W0 W m σ ρ M _ _ _ R mk h1 (fun xs J W1 m1 M1 q le mk1 ok => fun Dl hD => ?_) h3
  obtain ⟨I, i0, istep, iend⟩ := q
  have hD1 := (cat_new hD).1
  have R1 := R.mono le
  refine ⟨fun i n H => ∃ W m M acc us, cat W.H m = H ∧ W1.le W ∧ MOk B W M m ∧ W.H Dl = some (.lst us) ∧ W.F Dl = none ∧ RpAll B W.F us acc ∧ I i acc M ∧ i + n = xs.length, ⟨xs.length, W1.lay Dl (.lst []) (W1.fnone hD1), m1, M1, [], [], cat_upd.symm, W1.le_lay hD1, mk1.lay hD, upd_same, W1.fnone hD1, .nil, i0, Nat.zero_add _⟩, ?_⟩
  rintro i n H ⟨W, m, M, acc, us, rfl, le1, mk, s1, s2, s3, s4, s5⟩
  obtain ⟨go, stop⟩ := ok i W m M (R1.le.trans le1) le1.f mk
  cases z : xs[i]? with
  | none =>
    have hl : xs.length ≤ i := List.getElem?_eq_none_iff.mp z
    have e : i = xs.length := by omega
    subst e
    exact .inl ⟨stop hl, h2 acc Dl us W m M (iend acc M s4) (le.trans le1) mk (ex_none le.h hD1) s1 s2 s3⟩
  | some d =>
    obtain ⟨g1, g2⟩ := go d z
    have hl := (List.getElem?_eq_some_iff.mp z).1
    refine .inr ⟨g1, fun H' => ∃ W m M acc us, cat W.H m = H' ∧ W1.le W ∧ MOk B W M m ∧ W.H Dl = some (.lst us) ∧ W.F Dl = none ∧ RpAll B W.F us acc ∧ I (i + 1) acc M, fun H' ⟨W, m, M, acc, us, e1, e2, e3, e4, e5, e6, e7⟩ => ⟨n - 1, by omega, W, m, M, acc, us, e1, e2, e3, e4, e5, e6, e7, by omega⟩, fun x H' y => ?_⟩
    obtain ⟨W', le', e', mk', rv⟩ := g2 x H' y
    subst e'
    obtain ⟨hz, body⟩ := istep i d z acc M s4
    have Rw : Rel B W0 W' (wipe σ ws) (wipeE ρ ws) := ((R1.mono le1).mono le').wipe ws
    refine rg W0 W' m _ _ x d _ _ Rw rv body fun σ2 ρ2 R2 w2 h' => ⟨w2.trans (by rw [wipe_twice]), ?_⟩
    refine rt W0 W' m σ2 ρ2 M _ _ _ R2 mk' h' (fun b W3 m3 M3 q3 le3 mk3 => ?_) fun _ _ _ _ z => z.elim
    have t1 := le3.h _ _ (le'.h _ _ s1)
    have t2 := le3.n _ (by rw [le'.h _ _ s1]; exact fun y => by cases y) (le'.n _ (by rw [s1]; exact fun y => by cases y) s2)
    cases b with
    | false => exact ⟨W3, m3, M3, acc, us, rfl, (le1.trans le').trans le3, mk3, t1, t2, (s3.mono le'.f).mono le3.f, q3⟩
    | true =>
      refine re W0 W3 m3 σ2 ρ2 M3 _ _ _ (R2.mono le3) mk3 q3 (fun d4 v4 W4 m4 M4 q4 le4 mk4 r4 => ?_) fun _ _ _ _ z => z.elim
      have u1 := le4.h _ _ t1
      have u2 := le4.n _ (by rw [t1]; exact fun y => by cases y) t2
      have u3 := ((s3.mono le'.f).mono le3.f).mono le4.f
      refine ⟨us, cat_some u1, by rw [u3.length]; exact hz, ?_⟩
      exact ⟨W4.lay Dl (.lst (us ++ [v4])) u2, m4, M4, acc ++ [d4], us ++ [v4], cat_upd.symm, le_lay2 (((le1.trans le').trans le3).trans le4) hD1 u2, mk4.relay u1 u2, upd_same, u2, u3.append (.cons r4 .nil), q4⟩
theorem dn_lc (hN : X.N.Nodup) (hi : DI X wx tg iter Ti) (ok : BlkOk X.N X.env.scope scope own) (hg : ∀ z, DGk (blkF X scope z) tg G (own.map (·.2))) (ht : ∀ z, DTs (blkF X scope z) wx0 ifs U) (he : ∀ z, DE (blkF X scope z) wx0 elt T) (hc : X.calm = true := by rfl) (hs : ∀ x, foldedSetIterable iter X.env x = pure x := by intro _; rfl) :
    DN X wx (.ListComp elt [⟨tg, iter, ifs, 0⟩] scope pos) (dLc Ti G U T (own.map (·.2))) := by
  obtain ⟨wi, p, ri⟩ := hi
  obtain ⟨g, pg, rg⟩ := DGk.unif (Xf := blkF X scope) (B := bx X) (fun _ => rfl) hg
  obtain ⟨tt, pt, rt⟩ := DTs.unif (Xf := blkF X scope) (B := bx X) (fun _ => rfl) ht
  obtain ⟨te, pe, re⟩ := DE.unif (Xf := blkF X scope) (B := bx X) (fun _ => rfl) he
  exact ⟨_, pe_lc hc hN p ok (fun s H C cl fp => pg (s, H, C, cl, fp)) (fun s H C cl fp => pt (s, H, C, cl, fp)) (fun s H C cl fp => pe (s, H, C, cl, fp)) hs, rf_lc ri rg rt re⟩
/-- y = [..] on one line -/
theorem ps_lc {j : Nat} {y : Str} {py spos : Pos} (hN : X.N.Nodup) (hi : DI X wx tg iter Ti) (ok : BlkOk X.N X.env.scope scope own) (hg : ∀ z, DGk (blkF X scope z) tg G (own.map (·.2))) (ht : ∀ z, DTs (blkF X scope z) wx0 ifs U) (he : ∀ z, DE (blkF X scope z) wx0 elt T)
    (hsw : swapsWith (.ListComp elt [⟨tg, iter, ifs, 0⟩] scope pos) (some (.Name y py)) spos.line X.env = pure true) (hy : X.N[j]? = some y) (hyl : X.env.scope.names.lookup y = some .local) (hc : X.calm = true) (hs : ∀ x, foldedSetIterable iter X.env x = pure x) :
    ∃ t, PS X (.Assign [.Name y py] (.ListComp elt [⟨tg, iter, ifs, 0⟩] scope pos) spos) (tAsg t (gName j)) ∧ RfN (bx X) wx t (dLc Ti G U T (own.map (·.2))) := by
  obtain ⟨wi, p, ri⟩ := hi
  obtain ⟨g, pg, rg⟩ := DGk.unif (Xf := blkF X scope) (B := bx X) (fun _ => rfl) hg
  obtain ⟨tt, pt, rt⟩ := DTs.unif (Xf := blkF X scope) (B := bx X) (fun _ => rfl) ht
  obtain ⟨te, pe, re⟩ := DE.unif (Xf := blkF X scope) (B := bx X) (fun _ => rfl) he
  exact ⟨_, ps_setLc hc hN hy hyl hsw p ok (fun s H C cl fp => pg (s, H, C, cl, fp)) (fun s H C cl fp => pt (s, H, C, cl, fp)) (fun s H C cl fp => pe (s, H, C, cl, fp)) hs, rf_lc ri rg rt re⟩
theorem ds_setLc {j : Nat} {y : Str} {py spos : Pos} (hN : X.N.Nodup) (hi : DI X wx tg iter Ti) (ok : BlkOk X.N X.env.scope scope own) (hg : ∀ z, DGk (blkF X scope z) tg G (own.map (·.2))) (ht : ∀ z, DTs (blkF X scope z) wx0 ifs U) (he : ∀ z, DE (blkF X scope z) wx0 elt T)
    (hsw : swapsWith (.ListComp elt [⟨tg, iter, ifs, 0⟩] scope pos) (some (.Name y py)) spos.line X.env = pure true := by exact sw_true rfl rfl rfl (by decide +kernel)) (hy : X.N[j]? = some y := by rfl) (hyl : X.env.scope.names.lookup y = some .local := by rfl) (hc : X.calm = true := by rfl) (hs : ∀ x, foldedSetIterable iter X.env x = pure x := by intro _; rfl) :
    DS X wx (.Assign [.Name y py] (.ListComp elt [⟨tg, iter, ifs, 0⟩] scope pos) spos) (dAsg j (dLstOf (dLc Ti G U T (own.map (·.2))))) := by
  obtain ⟨t, p, r⟩ := ps_lc hN hi ok hg ht he hsw hy hyl hc hs
  refine ⟨_, p, fun W0 W m σ ρ M D DD R mk h k => r W0 W m σ ρ M _ _ _ R mk h (fun ds p vs W' m' M' q le mk' hn hp hf hv => ?_) fun C W' m' M' q le mk' => k.ex C W' m' σ ρ M' (R.mono le) mk' q⟩
  exact k.nx (W'.frz p _ hp) m' _ _ M' ((R.mono (le_frz le hn hp)).set (.lst (SqL.of (upd_same (H := W'.F))) (hv.mono (upd_ex hf)))) (mk'.frz hp hf) q
end
end Z

namespace Z
open PySem PySem.Spec PyProof.Rows L2
open Evl (Ex)

/-! ### methods of texts -/
abbrev SO := Str → List D → (D → Prop) → Prop
def RfSM (B : Bx) (r : V → List V → Hp → VK → Prop) (o : SO) : Prop := ∀ (W : Wd) (m : Hp) (M : Mu) (x : Str) (us : List V) (ds : List D) (Q : VK) (Qd : D → Prop), MOk B W M m → RpRs B W.F (cat W.H m) us ds → o x ds Qd →
  (∀ d v W', Qd d → W.le W' → MOk B W' M m → Rp B W'.F v d → Q v (cat W'.H m)) → r (.str x) us (cat W.H m) Q
def onStr (x : D) (P : Str → Prop) : Prop := match x with | .str z => P z | _ => False
def dSM (o : SO) (To : DTE) (R : DTA) : DTE := fun ρ M Q E => To ρ M (fun x M1 => onStr x fun z => R ρ M1 (fun as M2 => o z (as.map (drf M2)) fun d => Q d M2) E) E
section
variable {X : Cx} {wx : WX} {e a ob ce : Expr} {es : List Expr} {T Ta To : DTE} {R : DTA} {pos : Pos} {ms : List Bool} {r : V → List V → Hp → VK → Prop} {o : SO}
theorem de_sm (pb : ∀ {to t}, PE X ob to → PA X (e :: es) t → PE X ce (tBM X.K "str" r to t)) (hr : RfSM (bx X) r o) (ho : DR X wx ob To) (ha : DM X wx ms (e :: es) R) : DE X wx ce (dSM o To R) := by
  obtain ⟨to, po, ro⟩ := ho
  obtain ⟨t, pa, ra⟩ := ha
  refine ⟨_, pb po pa, fun W0 W m σ ρ M Q Qd Ed Re k h1 h2 h3 => ro W0 W m σ ρ M _ _ Ed Re k h1 (fun d v W' m' M' q le k' hv => ?_) h3⟩
  cases d with
  | str z =>
    cases hv
    refine ⟨rfl, ra W0 W' m' σ ρ M' _ _ Ed (Re.mono le) k' q (fun ds us W2 m2 M2 q2 le2 k2 hu => ?_) (h3.up le)⟩
    exact hr W2 m2 M2 z us _ Q _ k2 (hu.reads k2) q2 fun d3 v3 W3 q3 le3 k3 r3 => h2 d3 v3 W3 m2 M2 q3 ((le.trans le2).trans le3) k3 r3
  | _ => exact q.elim
end
section
variable {B : Bx}
theorem rf_s1 {r : V → List V → Hp → VK → Prop} {C : Str → Str → Prop} {g : Str → Str → V} {gd : Str → Str → D} (hr : ∀ a b H (Q : VK), C a b → Q (g a b) H → r (.str a) [.str b] H Q) (hg : ∀ a b F, Rp B F (g a b) (gd a b)) :
    RfSM B r (fun x ds Q => match ds with | [.str b] => C x b ∧ Q (gd x b) | _ => False) := by
  intro W m M x us ds Q Qd mk hu h k
  split at h
  · cases hu with
    | cons r1 t1 =>
      cases t1
      cases r1
      exact hr _ _ _ _ h.1 (k _ _ W h.2 (Wd.le.refl W) mk (hg _ _ _))
  · exact h.elim
def soStarts : SO := fun x ds Q => match ds with | [.str b] => True ∧ Q (.bl (Txt.startswith x b)) | _ => False
theorem rf_starts : RfSM B (fun x xs H Q => ∃ a b, x = .str a ∧ xs = [.str b] ∧ Q (.bl (Txt.startswith a b)) H) soStarts := rf_s1 (C := fun _ _ => True) (fun a b H Q _ q => ⟨a, b, rfl, rfl, q⟩) fun _ _ _ => .bl _
def soFind : SO := fun x ds Q => match ds with | [.str b] => True ∧ Q (.int (Txt.find x b)) | _ => False
def soStrip : SO := fun x ds Q => match ds with | [.str b] => x.length ≤ sizeLine ∧ Q (.str (Txt.stripChars x b)) | _ => False
theorem rf_strip : RfSM B (fun x xs H Q => ∃ a b, x = .str a ∧ xs = [.str b] ∧ a.length ≤ sizeLine ∧ Q (.str (Txt.stripChars a b)) H) soStrip := rf_s1 (C := fun a _ => a.length ≤ sizeLine) (fun a b H Q c q => ⟨a, b, rfl, rfl, c, q⟩) fun _ _ _ => .str _
def soPart : SO := fun x ds Q => match ds with | [.str b] => (b.length == 0) = false ∧ x.length ≤ sizeLine ∧ Q (.tup [.str (Txt.partition x b).1, .str (Txt.partition x b).2.1, .str (Txt.partition x b).2.2]) | _ => False
theorem rf_part : RfSM B (fun x xs H Q => ∃ a b, x = .str a ∧ xs = [.str b] ∧ (b.length == 0) = false ∧ a.length ≤ sizeLine ∧ ∀ p, H p = none → Q (.ref p) (upd H p (.tup [.str (Txt.partition a b).1, .str (Txt.partition a b).2.1, .str (Txt.partition a b).2.2]))) soPart := by
  intro W m M x us ds Q Qd mk hu h k
  unfold soPart at h
  split at h
  · cases hu with
    | cons r1 t1 =>
      cases t1
      cases r1
      exact ⟨_, _, rfl, rfl, h.1, h.2.1, fun p hp => newT mk hp (.cons (.str _) (.cons (.str _) (.cons (.str _) .nil))) fun W' le mk' rr => k _ _ W' h.2.2 le mk' rr⟩
  · exact h.elim
def soSplit : SO := fun x ds Q => match ds with | [.str b] => (b.length == 0) = false ∧ x.length + 2 ≤ sizeLine ∧ Q (.lst ((Txt.split x b).map .str)) | _ => False
theorem rf_split : RfSM B (fun x xs H Q => ∃ a b, x = .str a ∧ xs = [.str b] ∧ (b.length == 0) = false ∧ a.length + 2 ≤ sizeLine ∧ rNewStrs (Txt.split a b) H Q) soSplit := by
  intro W m M x us ds Q Qd mk hu h k
  unfold soSplit at h
  split at h
  · cases hu with
    | cons r1 t1 =>
      cases t1
      cases r1
      exact ⟨_, _, rfl, rfl, h.1, h.2.1, fun p hp => newL mk hp (RpAll.of_strs _) fun W' le mk' rr => k _ _ W' h.2.2 le mk' rr⟩
  · exact h.elim
/-- texts out of data -/
def strsD : List D → Option (List Str)
  | [] => some []
  | .str x :: r => (strsD r).map (x :: ·)
  | _ :: _ => none
theorem strsD_of : ∀ {ds : List D} {ys : List Str}, strsD ds = some ys → ds = ys.map .str
  | [], ys, h => by cases h; rfl
  | .str x :: r, ys, h => by
    unfold strsD at h
    obtain ⟨zs, h1, h2⟩ := Option.map_eq_some_iff.mp h
    subst h2
    rw [strsD_of h1]; rfl
  | .non :: _, _, h => by cases h
  | .bl _ :: _, _, h => by cases h
  | .int _ :: _, _, h => by cases h
  | .lst _ :: _, _, h => by cases h
  | .tup _ :: _, _, h => by cases h
  | .obj _ _ :: _, _, h => by cases h
  | .ref _ :: _, _, h => by cases h
  | .ty _ :: _, _, h => by cases h
  | .cls _ :: _, _, h => by cases h
  | .exc _ :: _, _, h => by cases h
  | .dic _ _ :: _, _, h => by cases h
theorem strsD_map : ∀ ys : List Str, strsD (ys.map .str) = some ys
  | [] => rfl
  | y :: ys => by show (strsD (ys.map .str)).map (y :: ·) = _; rw [strsD_map ys]; rfl
def joinD (x : Str) (xs : List D) (Q : D → Prop) : Prop := ∃ ys, strsD xs = some ys ∧ (ys.map (·.length)).sum + ys.length * x.length ≤ 16777216 ∧ Q (.str (Txt.join x ys))
def soJoin : SO := fun x ds Q => match ds with | [.lst xs] => joinD x xs Q | [.tup xs] => joinD x xs Q | _ => False
theorem rf_join : RfSM B (fun x xs H Q => ∃ a p, ∃ ys : List Str, x = .str a ∧ xs = [.ref p] ∧ (SqL B.K H p (ys.map V.str) ∨ SqT B.K H p (ys.map V.str)) ∧ (ys.map (·.length)).sum + ys.length * a.length ≤ 16777216 ∧ Q (.str (Txt.join a ys)) H) soJoin := by
  intro W m M x us ds Q Qd mk hu h k
  have ok := W.ok.trans (cat_ex W.H m)
  unfold soJoin at h
  split at h
  · obtain ⟨ys, e, hz, h⟩ := h
    have e := strsD_of e
    subst e
    cases hu with
    | cons r1 t1 =>
      cases t1
      obtain ⟨p, vs, rfl, s1, s2⟩ := r1
      rw [s2.strs] at s1
      exact ⟨x, p, ys, rfl, rfl, .inl s1, hz, k _ _ W h (Wd.le.refl W) mk (.str _)⟩
  · obtain ⟨ys, e, hz, h⟩ := h
    have e := strsD_of e
    subst e
    cases hu with
    | cons r1 t1 =>
      cases t1
      cases r1 with
      | tup s1 s2 =>
        rw [s2.strs] at s1
        exact ⟨x, _, ys, rfl, rfl, .inr (Evl.ex_t ok s1), hz, k _ _ W h (Wd.le.refl W) mk (.str _)⟩
  · exact h.elim
def lmInsert : LM := fun _ ds as Q => match as with | [.int i, d] => ds.length < sizeLine ∧ 0 ≤ i ∧ i < 2 ^ 63 ∧ Q .non (ds.take i.toNat ++ [d] ++ ds.drop i.toNat) | _ => False
/-- xs[i] = e -/
def lmSet : LM := fun _ ds as Q => match as with | [.int i, d] => ∃ j, ixN ds.length i = some j ∧ Q .non (ds.set j d) | _ => False
/-- xs[i] += n -/
def lmAugS (f : Int → Int → Int) (n : Int) : LM := fun _ ds as Q => match as with | [.int i] => ∃ j x, ixN ds.length i = some j ∧ ds[j]? = some (.int x) ∧ Q .non (ds.set j (.int (f x n))) | _ => False
end
section
variable {X : Cx} {wx : WX} {e a b : Expr} {T Ta : DTE} {pos tpos p2 : Pos} {i : Nat} {x : Str}
/-- x[k] = e, x an own list or one of the store -/
def dStore (i : Nat) (Tk Te : DTE) : DTS := fun DD ρ M => Te ρ M (fun d M1 => lmPre ρ M1 i ∧ Tk ρ M1 (fun k M2 => lmAt lmSet ρ M2 i [k, d] fun _ ρ' M' => DD.nx ρ' M') fun C => DD.ex C ρ) fun C => DD.ex C ρ
/-- x += [..] of an own list or one of the store -/
def dAugL (i : Nat) (Te : DTE) : DTS := fun DD ρ M => Te ρ M (fun d M1 => lmAt lmExtend ρ M1 i [d] fun _ ρ' M' => DD.nx ρ' M') fun C => DD.ex C ρ
def rIaddv (K : PySem.W.Frag) : V → List V → Hp → VK → Prop := fun x us H Q => ∃ y, us = [y] ∧ rIaddS K x y H fun v H' => v = x ∧ Q .non H'
theorem rf_iadd {B : Bx} : RfL B [true] (rIaddv B.K) lmExtend := by
  intro W m M a vs ds us as Q Qd mk ha rv hu h k
  obtain ⟨l, b, xs, zs, e1, e2, h1, h2, h3, h4⟩ := rf_extend W m M a vs ds us as Q Qd mk ha rv hu h k
  exact ⟨.ref b, e2, l, b, xs, zs, e1, rfl, h1, h2, h3, e1.symm, h4⟩
theorem set_same {σ : L2.St} {i : Nat} {v : Option V} (h : σ[i]? = some v) : σ.set i v = σ := by
  refine List.ext_getElem? fun j => ?_
  rw [List.getElem?_set]
  split
  · rename_i z
    subst z
    rw [h]
    have := (List.getElem?_eq_some_iff.mp h).1
    simp [this]
  · rfl
theorem ds_augL (i : Nat) (hN : X.N.Nodup) (he : DR X wx e T) (hi : X.N[i]? = some x := by rfl) (hx : Loc X.env.scope x := by first | exact Or.inl rfl | exact Or.inr rfl) (hf : X.fn x = true ∨ X.env.scope.names.lookup x = some .local := by first | exact .inl rfl | exact .inr rfl) : DS X wx (.AugAssign (.Name x p2) .Add e pos) (fun DD ρ M => lmPre ρ M i ∧ dAugL i T DD ρ M) := by
  obtain ⟨t, p, r⟩ := he
  refine ⟨_, ps_aug hN hi hx p ip_cat hf, fun W0 W m σ ρ M D DD R mk h k => ?_⟩
  obtain ⟨hp, h⟩ := h
  obtain ⟨aa, vs, s1, s2⟩ := lmPre_of R mk hp
  refine ⟨_, s1, r W0 W m σ ρ M _ _ _ R mk h (fun d v W' m' M' q le mk' hv => ?_) fun C W' m' M' q le mk' => k.ex C W' m' σ ρ M' (R.mono le) mk' q⟩
  obtain ⟨a', vs', s1', s2', s3⟩ := rf_lmut (B := bx X) (Q := fun _ H' => D.nx σ H') rf_iadd (R.mono le) mk' (.bor hv .nil) q fun d v W3 m3 ρ3 M3 q3 R3 mk3 _ => k.nx W3 m3 σ ρ3 M3 R3 mk3 q3
  rw [s1] at s1'
  cases s1'
  obtain ⟨y, e, l, b, xs, zs, e1, e2, h1, h2, h3, h4, h5⟩ := s3
  cases e
  refine ⟨l, b, xs, zs, e1, e2, h1, h2, h3, ?_⟩
  show D.nx (σ.set i (some (.ref l))) _
  rw [h4, set_same s1]
  exact h5
def dAugS (f : Int → Int → Int) (n : Int) (i : Nat) (Tk : DTE) : DTS := fun DD ρ M => lmPre ρ M i ∧ Tk ρ M (fun k M2 => lmAt (lmAugS f n) ρ M2 i [k] fun _ ρ' M' => DD.nx ρ' M') fun C => DD.ex C ρ
end
end Z

/-! Exceptions: raise, try. -/
namespace Z
open PySem PySem.Spec PyProof.Rows L2
open Evl (Ex)

/-! ### what is never reached needs no rule -/
section
variable {X : Cx} {wx : WX} {e : Expr} {st : Stmt} {rest : List Stmt}
end

/-! ### raise -/
/-- the class n of exceptions: a heir of ValueError without anything of its own -/
structure XcF (B : Bx) (n : Str) : Prop where
  mg : B.mg n = some (.ref (B.cl n))
  xc : PySem.W.excIn B.K (B.cl n) He.veBase "ValueError.__new__" = true
  kp : PySem.W.keepIn B.K (.ref (B.cl n)) = true
  sb : PySem.W.subIn B.K (.ref (B.cl n)) (.type "BaseException") = some true
  ty : PySem.W.typeIn B.K (.ref (B.cl n)) = some (.type "type")
theorem XcF.of {B : Bx} {n : Str} {a : Addr} (h0 : B.mg n = some (.ref a)) (h : PySem.W.excIn B.K a He.veBase "ValueError.__new__" = true ∧ PySem.W.keepIn B.K (.ref a) = true ∧ PySem.W.subIn B.K (.ref a) (.type "BaseException") = some true ∧ PySem.W.typeIn B.K (.ref a) = some (.type "type")) : XcF B n := by
  have e := cl_of h0
  obtain ⟨h1, h2, h3, h4⟩ := h
  refine ⟨?_, ?_, ?_, ?_, ?_⟩ <;> rw [e] <;> assumption
def dRaise (n : Str) : DTS := fun DD ρ M => DD.ex n ρ M
section
variable {X : Cx} {wx : WX} {pos p p2 pos' : Pos}
theorem ds_raise {n msg : Str} {j : Nat} (tk : Takes X wx) (h : XcF (bx X) n) (hc : X.calm = true := by rfl) (hg : Gl X n := by rfl) (hd : (n == ("__debug__" : Str)) = false := by decide) : DS X wx (.Raise (some (.Call (.Name n p) [.Constant (.str msg) j p2] [] pos')) none pos) (dRaise n) :=
  ⟨_, ps_raise hc tk (pmk_own PySem.F.excBase_ValueError h.xc h.mg h.kp (raises_own h.sb h.ty) hg hd), fun W0 W m σ ρ M D DD R mk q k => k.ex n W m σ ρ M R mk q⟩
end

/-! ### try .. except x as n: the exception is tracked -/
section
variable {X : Cx} {pins : List (Addr × Obj)} {σ : L2.St} {H : Hp} {s sI : Shared} {a : Addr} {o : HO}
end
section
variable {X : Cx} {x n : Str} {c : Value} {i : Nat} {body suite : List Stmt} {b₀ : Stmt} {np pos pos' : Pos} {tb : WX → TS} {ts : TS} {Wo : WX}
end
/-- the classes that the clause catches | lets by, among those that the body may raise -/
structure ExcF (B : Bx) (x : Str) (yes no : List Str) : Prop where
  mg : B.mg x = some (.ref (B.cl x))
  yes : ∀ C ∈ yes, PySem.W.exmOne B.K (.ref (B.cl C)) (.ref (B.cl x)) = some true
  no : ∀ C ∈ no, PySem.W.exmOne B.K (.ref (B.cl C)) (.ref (B.cl x)) = some false
def dTry (i : Nat) (yes no : List Str) (S Su : DTS) : DTS := fun DD ρ M => S { DD with ex := fun C ρ1 M1 => (C ∈ yes ∧ Su ⟨fun ρ2 => DD.nx (ρ2.set i .un), DD.rt, fun ρ2 => DD.bk (ρ2.set i .un), fun ρ2 => DD.ct (ρ2.set i .un), fun _ _ _ => False⟩ (ρ1.set i (.dat (.exc C))) M1) ∨ (C ∈ no ∧ DD.ex C ρ1 M1) } ρ M
section
variable {X : Cx} {wx : WX} {x n : Str} {i : Nat} {body suite : List Stmt} {b₀ : Stmt} {np pos pos' : Pos} {S Su : DTS}
end
end Z

/-! Classes: isinstance, fields, instances, methods. -/
namespace Z
open PySem PySem.Spec PyProof.Rows L2
open Evl (Ex)

/-! ### isinstance of own classes, of tuples of classes -/
section
variable {X : Cx}
end

/-! ### fields -/
def FldF (B : Bx) (f : Str) (cs : List Str) : Prop := ∀ n ∈ cs, Cls B.K (B.cl n) ∧ NoAttr B.K (B.cl n) f
def fldD (f : Str) (cs : List Str) (d : D) (K : D → Prop) : Prop := match d with
  | .obj n fs => n ∈ cs ∧ ∃ x, fs.lookup f = some x ∧ K x
  | _ => False
def dFld (f : Str) (cs : List Str) (T : DTE) : DTE := fun ρ M Q E => T ρ M (fun d M' => fldD f cs (drf M' d) fun x => Q x M') E
section
variable {X : Cx} {wx : WX} {e o : Expr} {es : List Expr} {T : DTE} {pos pos' p apos : Pos} {f x : Str} {cs : List Str}
theorem de_fld (hf : FldF (bx X) f cs) (he : DR X wx e T) (hb : attributeBase e f X.env (eval e X.env) = eval e X.env := by rfl) : DE X wx (.Attribute e f pos) (dFld f cs T) := by
  obtain ⟨t, p, r⟩ := he
  refine ⟨_, pe_fld p hb, fun W0 W m σ ρ M Q Qd Ed R k h1 h2 h3 => r W0 W m σ ρ M _ _ Ed R k h1 (fun d v W' m' M' q le k' hv => ?_) h3⟩
  have hv := hv.drf k'
  cases z : Z.drf M' d with
  | obj n fs =>
    rw [z] at hv q
    obtain ⟨a, dx, fv, rfl, h4, h5⟩ := hv
    obtain ⟨hn, y, e1, q⟩ := q
    obtain ⟨u, e2, r2⟩ := h5.lookup e1
    obtain ⟨c1, c2⟩ := hf n hn
    exact ⟨a, _, dx, fv, u, rfl, h4, c1, c2, e2, h2 y u W' m' M' q le k' r2⟩
  | _ => rw [z] at q; exact q.elim
def putD (f : Str) (d : D) : List (Str × D) → List (Str × D)
  | [] => [(f, d)]
  | (g, x) :: r => if g = f then (g, d) :: r else (g, x) :: putD f d r
theorem RpF.put {B : Bx} {F : Hp} {f : Str} {v : V} {d : D} (r : Rp B F v d) : ∀ {fv : List (Str × V)} {fs : List (Str × D)}, RpF B F fv fs → RpF B F (putF f v fv) (putD f d fs)
  | _, _, .nil => .cons r .nil
  | _, _, .cons (f := g) q t => by
    unfold putF putD
    split
    · exact .cons r t
    · exact .cons q (RpF.put r t)
/-- self.f = e -/
def onIns (M : Mu) (e : Ent) (cs : List Str) (K : Addr → Str → List (Str × D) → Prop) : Prop := match e with
  | .dat (.ref a) => (match M a with | some (.ins n fs) => n ∈ cs ∧ fs.length < 900 ∧ K a n fs | _ => False)
  | _ => False
theorem onIns_of {M : Mu} {e : Ent} {cs : List Str} {K : Addr → Str → List (Str × D) → Prop} (h : onIns M e cs K) : ∃ a n fs, e = .dat (.ref a) ∧ M a = some (.ins n fs) ∧ n ∈ cs ∧ fs.length < 900 ∧ K a n fs := by
  unfold onIns at h
  split at h
  · split at h
    · rename_i z; exact ⟨_, _, _, rfl, z, h⟩
    · exact h.elim
  · exact h.elim
def dSetF (i : Nat) (f : Str) (cs : List Str) (T : DTE) : DTS := fun DD ρ M => T ρ M (fun d M' => onIns M' (ga ρ i) cs fun a n fs => DD.nx ρ (updM M' a (.ins n (putD f d fs)))) fun C => DD.ex C ρ
theorem ds_setF {i : Nat} (hf : FldF (bx X) f cs) (pv : PE X (.Name x p) (tVar i)) (he : DE X wx e T) (hs : swapsWith e (some (.Attribute (.Name x p) f pos')) pos.line X.env = pure false := by rfl) : DS X wx (.Assign [.Attribute (.Name x p) f pos'] e pos) (dSetF i f cs T) := by
  obtain ⟨t, pe, r⟩ := he
  refine ⟨_, ps_fld pv pe hs, fun W0 W m σ ρ M D DD R mk h k => r W0 W m σ ρ M _ _ _ R mk h (fun d v W' m' M' q le mk' hv => ?_) fun C W' m' M' q le mk' => k.ex C W' m' σ ρ M' (R.mono le) mk' q⟩
  obtain ⟨a, n, fs, e1, e2, hn, hl, q⟩ := onIns_of q
  obtain ⟨u, s1, ru⟩ := (R.mono le).dat e1
  cases ru
  have o1 := mk'.ok a
  rw [e2] at o1
  obtain ⟨dx, fv, o2, o3⟩ := o1
  have hH := mk'.hn e2
  obtain ⟨c1, c2⟩ := hf n hn
  refine ⟨_, s1, a, _, dx, fv, rfl, (cat_none hH).trans o2, c1, c2, by rw [o3.length]; omega, ?_⟩
  exact cat_qm (P := D.nx σ) hH (k.nx W' _ σ ρ _ (R.mono le) (mk'.put (ob := .ins n (putD f d fs)) hH ⟨dx, _, rfl, o3.put hv⟩) q)

/-! ### instances made -/
def delM (M : Mu) (a : Addr) : Mu := fun b => if b = a then none else M b
theorem del_upd {M : Mu} {a : Addr} {o : Ob} (h : M a = none) : delM (updM M a o) a = M := by
  funext b
  unfold delM updM
  by_cases z : b = a
  · subst z; rw [if_pos rfl, h]
  · rw [if_neg z, if_neg z]
theorem MOk.del {B : Bx} {W : Wd} {M : Mu} {m : Hp} (h : MOk B W M m) (a : Addr) : MOk B W (delM M a) m := h.weak fun b ob e => by
  unfold delM at e
  split at e
  · cases e
  · exact e
/-- an object of the store is frozen -/
theorem MOk.freeze {B : Bx} {W : Wd} {M : Mu} {m : Hp} {a : Addr} {n : Str} {fs : List (Str × D)} (h : MOk B W M m) (e : M a = some (.ins n fs)) : ∃ W' m', cat W'.H m' = cat W.H m ∧ W.le W' ∧ MOk B W' (delM M a) m' ∧ Rp B W'.F (.ref a) (.obj n fs) := by
  have hH := h.hn e
  have o1 := h.ok a
  rw [e] at o1
  obtain ⟨dx, fv, o2, o3⟩ := o1
  refine ⟨W.new a (.ins (B.cl n) dx fv), fun b => if b = a then none else m b, ?_, W.le_new hH, ⟨fun b hb => ?_, fun b => ?_⟩, .obj (upd_same (H := W.F)) (o3.mono (W.le_new hH).f)⟩
  · funext b
    by_cases z : b = a
    · subst z
      rw [cat_some (show (W.new b (.ins (B.cl n) dx fv)).H b = _ from upd_same), cat_none hH, o2]
    · unfold cat
      dsimp only
      rw [show (W.new a (.ins (B.cl n) dx fv)).H b = W.H b from upd_ne z, if_neg z]
  · by_cases z : b = a
    · rw [if_pos z]
    · rw [if_neg z]
      refine h.dj b ?_
      rw [← show (W.new a (.ins (B.cl n) dx fv)).H b = W.H b from upd_ne z]; exact hb
  · unfold delM
    by_cases z : b = a
    · rw [if_pos z, if_pos z]; trivial
    · rw [if_neg z, if_neg z]; exact (h.ok b).mono (W.le_new hH).f
/-- C(..) by its __init__; dv: the defaults at this call -/
structure MkF (B : Bx) (base : Heap) (k : Nat) (n : Str) (ms : List Bool) (dv : List D) (sp : SpM) : Prop where
  ex : ∃ f fd ps dvs ds, FnB B base k f fd ps ms sp ∧ B.mg n = some (.ref (B.cl n)) ∧ Mk B.K (B.cl n) f ∧ Binds B.K fd ps ds ∧ Vals dvs ds ∧ ∀ F, RpAll B F dvs dv
def tMakeS (C : Addr) (sp : Sp) (dvs : List V) (E : L2.St → XK) (t : TA) : TE := fun σ H Q => t σ H fun vs H1 => ∀ x dx, H1 x = none → H1 dx = none → dx ≠ x → sp (.ref x :: (vs ++ dvs)) (upd (upd H1 dx (.own x)) x (.ins C dx [])) (fun v H2 => v = .non ∧ Q (.ref x) H2) (E σ)
theorem run_makeS {CX : CXT} {k : Nat} {g C : Addr} {fd : FuncData} {ps : List Str} {sp : Sp} {dvs : List V} {ds : List Value} {E : XK} {pins : List (Addr × Obj)} {σ : L2.St} {H : Hp} {s : Shared} {Q : VK} {us : List Value} {vs : List V}
    (M : Mk X.K C g) (F : FnOk X.prog X.w X.K X.mg X.base CX k g fd ps sp) (hr : Room (k + 1) X.A) (hb : Binds X.K fd ps ds) (hd : Vals dvs ds) (hx : PassesAt CX X σ E) (I : L2.Inv X pins σ H s) (r : Vals vs us)
    (h : ∀ x dx, H x = none → H dx = none → dx ≠ x → sp (.ref x :: (vs ++ dvs)) (upd (upd H dx (.own x)) x (.ins C dx [])) (fun v H2 => v = .non ∧ Q (.ref x) H2) E) :
    wpAny (model X.prog X.w) X.A (call (.ref C) us) (EP X pins σ Q) X.xe s := by
  have hq := h _ _ (I.hok.fresh (Nat.le_succ s.heap.objs.size)) (I.hok.fresh (Nat.le_refl s.heap.objs.size)) (Nat.ne_of_lt (Nat.lt_succ_self _))
  have J := Inv.made (C := C) I
  have r2 : Vals (V.ref (s.heap.objs.size + 1) :: (vs ++ dvs)) (.ref (s.heap.objs.size + 1) :: (us ++ ds)) := .cons rfl (r.append hd)
  have hl : (Value.ref (s.heap.objs.size + 1) :: us ++ ds).length = ps.length := (r2.length.symm.trans (F.len _ _ _ _ hq))
  refine wpAny_call (make_map I.kIn M.makes M.init (beq_iff_eq.mp M.fn) (codeAny_mono (F.run _ X.stack _ _ ⟨.ref (s.heap.objs.size + 1) :: us, []⟩ _ _ _ E (hr.make C us []) (J.env0.make C us []) (hb _ (.ref (s.heap.objs.size + 1) :: us) J.kIn hl) r2 hq) fun r s' z => ?_))
  cases r with
  | error e => exact hx pins _ _ e s' J z
  | ok fl =>
    cases fl with
    | ret u => obtain ⟨v, H', J3, rv, rfl, q3⟩ := J.after z; exact ⟨rv, ⟨.ref (s.heap.objs.size + 1), H', J3, rfl, q3⟩⟩
    | next => exact False.elim z
    | brk => exact False.elim z
    | cont => exact False.elim z
theorem pe_makeS {CX : CXT} {k : Nat} {g C : Addr} {fd : FuncData} {ps : List Str} {sp : Sp} {dvs : List V} {ds : List Value} {E : L2.St → XK} {t : TA} (M : Mk X.K C g) (F : FnOk X.prog X.w X.K X.mg X.base CX k g fd ps sp) (hr : Room (k + 1) X.A) (hg : Gl X x) (hm : X.mg x = some (.ref C))
    (hb : Binds X.K fd ps ds) (hd : Vals dvs ds) (hx : ∀ σ, PassesAt CX X σ (E σ)) (ha : PA X (e :: es) t) (hdb : (x == ("__debug__" : Str)) = false) (he : starEach (e :: es) X.env = (false, eval e X.env) :: starEach es X.env) (hpl : (backTo pos (starEach es X.env)).any (·.1) = false) :
    PE X (.Call (.Name x p) (e :: es) [] pos) (tMakeS C sp dvs E t) := by
  refine ⟨fun pins s σ H Q I h => wpAny_Call_Name_kw (ld_glob I hg hm ?_ hdb)⟩
  exact PySem.W.callWith_K (h₀ := X.base) I.ok.mod.kin M.kp (thn (ha.run pos pins s σ H _ I h) fun us s1 ⟨vs, H1, J, r, q⟩ => ⟨J.kIn, run_makeS M F hr hb hd (hx σ) J r q⟩) he hpl
/-- behind __init__: the object is frozen -/
def dMake (n : Str) (dv : List D) (sp : SpM) (R : DTA) : DTE := fun ρ M Q E => R ρ M (fun ds M1 => ∀ x, M1 x = none → sp (.ref x :: (ds ++ dv)) (updM M1 x (.ins n [])) (fun d M2 => d = .non ∧ ∃ fs, M2 x = some (.ins n fs) ∧ Q (.obj n fs) (delM M2 x)) (fun C M2 => E C (delM M2 x))) E
theorem ArgsOk.app {B : Bx} {W : Wd} {ms ns : List Bool} {vs : List V} {ds : List D} {us : List V} {es : List D} (hn : ns.length = us.length) (h : ArgsOk B W ms vs ds) (g : ∀ F, RpAll B F us es) : ArgsOk B W (ms ++ ns) (vs ++ us) (ds ++ es) := by
  induction h with
  | nil =>
    have : ∀ {ns : List Bool} {us : List V} {es : List D}, ns.length = us.length → RpAll B W.F us es → ArgsOk B W ns us es := fun {ns us es} hn q => by
      induction us generalizing es ns with
      | nil =>
        cases q
        cases ns with
        | nil => exact .nil
        | cons _ _ => cases hn
      | cons v vs ih =>
        cases ns with
        | nil => cases hn
        | cons b ns =>
          cases q with
          | cons r t =>
            cases b with
            | false => exact .dat r (ih (by simpa using hn) t)
            | true => exact .bor (r.r W.ok) (ih (by simpa using hn) t)
    exact this hn (g _)
  | dat r _ ih => exact .dat r ih
  | bor r _ ih => exact .bor r ih
theorem de_make {j k : Nat} {ms ns : List Bool} {dv : List D} {sp : SpM} {R : DTA} (F : MkF (bx X) X.base k x (false :: (ms ++ ns)) dv sp) (hr : Room j X.A) (tk : Takes X wx) (hk : k + 1 ≤ j) (ha : DM X wx ms (e :: es) R) (hg : Gl X x := by rfl) (hdb : (x == ("__debug__" : Str)) = false := by decide)
    (he : starEach (e :: es) X.env = (false, eval e X.env) :: starEach es X.env := by rfl) (hpl : (backTo pos (starEach es X.env)).any (·.1) = false := by rfl) (hnl : ns.length = dv.length := by rfl) : DE X wx (.Call (.Name x p) (e :: es) [] pos) (dMake x dv sp R) := by
  obtain ⟨f, fd, ps, dvs, ds, G, h1, h2, h3, h4, h5⟩ := F.ex
  obtain ⟨t, pa, ra⟩ := ha
  refine ⟨_, pe_makeS (E := WE wx) h2 G (hr.mono hk) hg h1 h3 h4 (fun σ => passAt tk σ) pa hdb he hpl, fun W0 W m σ ρ M Q Qd Ed Re k h1 h2 h3 => ?_⟩
  refine ra W0 W m σ ρ M _ _ Ed Re k h1 (fun ds vs W' m' M' q le k' hv => fun y dx ny ndx ne => ?_) h3
  obtain ⟨ny1, ny2⟩ := cat_new ny
  obtain ⟨nd1, nd2⟩ := cat_new ndx
  have hMy : M' y = none := by
    cases z : M' y with
    | none => rfl
    | some ob => have o1 := k'.ok y; rw [z] at o1; exact absurd ny2 o1.ne
  have k1 := k'.lay (o := .own y) ndx
  have hyW : (W'.lay dx (.own y) (W'.fnone nd1)).H y = none := (upd_ne (Ne.symm ne)).trans ny1
  have k2 := k1.put (a := y) (ob := .ins x []) (o := .ins ((bx X).cl x) dx []) hyW ⟨dx, [], rfl, .nil⟩
  have hA := ArgsOk.app (ns := ns) (by rw [hnl, (h5 W.F).length]) hv h5
  refine ⟨W'.lay dx (.own y) (W'.fnone nd1), upd m' y (.ins ((bx X).cl x) dx []), updM M' y (.ins x []), .ref y :: (ds ++ dv), _, _, ?_, k2, .dat (.ref y) (hA.le (W'.le_lay nd1)), q y hMy, fun d v W2 m2 M2 q2 le2 mk2 hv2 => ?_, fun C W2 m2 M2 q2 le2 mk2 => ?_⟩
  · rw [← cat_updm hyW]
    exact congrArg (fun z => upd z y _) cat_upd.symm
  · obtain ⟨rfl, fs, e2, q2⟩ := q2
    cases hv2
    obtain ⟨W3, m3, e3, le3, mk3, r3⟩ := mk2.freeze e2
    refine ⟨rfl, ?_⟩
    have := h2 _ (.ref y) W3 m3 _ q2 (((le.trans (W'.le_lay nd1)).trans le2).trans le3) mk3 r3
    rw [e3] at this
    exact this
  · exact h3 C W2 m2 _ q2 ((le.trans (W'.le_lay nd1)).trans le2) (mk2.del y)
/-- C() of a class without __init__ -/
structure Mk0F (B : Bx) (n : Str) : Prop where
  mg : B.mg n = some (.ref (B.cl n))
  ms : PySem.W.makesIn B.K (B.cl n) = true
  ini : PySem.W.findIn B.K (.ref (B.cl n)) "__init__" = some (some (.builtin "object.__init__"))
  kp : PySem.W.keepIn B.K (.ref (B.cl n)) = true
def dMake0 (n : Str) : DTE := fun _ M Q _ => Q (.obj n []) M
theorem pe_make00 {C : Addr} (mk : PySem.W.makesIn X.K C = true) (ini : PySem.W.findIn X.K (.ref C) "__init__" = some (some (.builtin "object.__init__"))) (kp : PySem.W.keepIn X.K (.ref C) = true) (hg : Gl X x) (hm : X.mg x = some (.ref C)) (hdb : (x == ("__debug__" : Str)) = false) :
    PE X (.Call (.Name x p) [] [] pos) (fun σ H Q => ∀ y dx, H y = none → H dx = none → dx ≠ y → Q (.ref y) (upd (upd H dx (.own y)) y (.ins C dx []))) := by
  refine ⟨fun pins s σ H Q I h => wpAny_Call_Name_kw (ld_glob I hg hm ?_ hdb)⟩
  refine PySem.W.callWith_K0 I.kIn kp (wpAny_call (make_map0 I.kIn mk ini (fun self => PySem.W.Looks.of_pure (PySem.W.oi_bind self)) ?_))
  have J := Inv.made (C := C) I
  have hy : ((s.heap.push PySem.W.emptyDict).push (PySem.W.instObj C s.heap.objs.size)).get? (s.heap.objs.size + 1) = some (PySem.W.instObj C s.heap.objs.size) := by
    have := Heap.get?_push_size (s.heap.push PySem.W.emptyDict) (o := PySem.W.instObj C s.heap.objs.size) rfl
    rwa [Heap.size_push] at this
  have t2 : PySem.W.Looks (model X.prog X.w) ((s.heap.push PySem.W.emptyDict).push (PySem.W.instObj C s.heap.objs.size)) (isInstance (.ref (s.heap.objs.size + 1)) (.type "object")) true := (NwA.type_at hy rfl).andThen (PySem.W.looks_mroIn J.kIn (mro_obj mk))
  refine codeAny_call_builtin PySem.W.oi_plain PySem.W.entry_oi (@PySem.W.check_slot _ _ _ _ "object.__init__" "object" "__init__" (.ref (s.heap.objs.size + 1)) [] [] _ PySem.W.oi_kind PySem.W.oi_split t2 (NwA.oi_args_any _ _ _) ?_)
  rw [PySem.W.oi_run]
  exact wpAny_pure ⟨rfl, .ref (s.heap.objs.size + 1), _, J, rfl, h _ _ (I.hok.fresh (Nat.le_succ _)) (I.hok.fresh (Nat.le_refl _)) (Nat.ne_of_lt (Nat.lt_succ_self _))⟩
theorem de_make0 (h : Mk0F (bx X) x) (hg : Gl X x := by rfl) (hdb : (x == ("__debug__" : Str)) = false := by decide) : DE X wx (.Call (.Name x p) [] [] pos) (dMake0 x) := by
  refine ⟨_, pe_make00 h.ms h.ini h.kp hg h.mg hdb, fun W0 W m σ ρ M Q Qd Ed Re k h1 h2 h3 => fun y dx ny ndx ne => ?_⟩
  obtain ⟨nd1, nd2⟩ := cat_new ndx
  have k1 := k.lay (o := .own y) ndx
  have e1 : upd (cat W.H m) dx (.own y) = cat (W.lay dx (.own y) (W.fnone nd1)).H m := cat_upd
  have ny' : cat (W.lay dx (.own y) (W.fnone nd1)).H m y = none := by rw [← e1, upd_ne (Ne.symm ne)]; exact ny
  rw [e1]
  exact cat_q (P := Q (.ref y)) (h2 _ (.ref y) ((W.lay dx (.own y) (W.fnone nd1)).new y _) m M h1 ((W.le_lay nd1).trans (Wd.le_new _ (cat_new ny').1)) (k1.new ny') (.obj (upd_same (H := (W.lay dx (.own y) (W.fnone nd1)).F)) .nil))

/-! ### methods -/
structure MtF (B : Bx) (base : Heap) (k : Nat) (n m : Str) (ms : List Bool) (sp : SpM) : Prop where
  ex : ∃ f fd ps, FnB B base k f fd ps ms sp ∧ Cls B.K (B.cl n) ∧ Meth B.K (B.cl n) m f ∧ Binds B.K fd ps []
theorem MtF.up {B : Bx} {base : Heap} {k j : Nat} {n m : Str} {ms : List Bool} {sp : SpM} (h : MtF B base k n m ms sp) (hk : k ≤ j) : MtF B base j n m ms sp := by
  obtain ⟨f, fd, ps, F, h1, h2, h3⟩ := h.ex
  exact ⟨f, fd, ps, F.mono hk, h1, h2, h3⟩
theorem MkF.up {B : Bx} {base : Heap} {k j : Nat} {n : Str} {ms : List Bool} {dv : List D} {sp : SpM} (h : MkF B base k n ms dv sp) (hk : k ≤ j) : MkF B base j n ms dv sp := by
  obtain ⟨f, fd, ps, dvs, ds, F, r⟩ := h.ex
  exact ⟨f, fd, ps, dvs, ds, F.mono hk, r⟩
abbrev Mts (B : Bx) (base : Heap) (k : Nat) (m : Str) (ms : List Bool) (tb : List (Str × SpM)) : Prop := ∀ n sp, tb.lookup n = some sp → MtF B base k n m ms sp
theorem mt_nil {B : Bx} {base : Heap} {k : Nat} {m : Str} {ms : List Bool} : Mts B base k m ms [] := fun _ _ h => by cases h
theorem mt_cons {B : Bx} {base : Heap} {k : Nat} {m n : Str} {ms : List Bool} {sp : SpM} {tb : List (Str × SpM)} (h : MtF B base k n m ms sp) (t : Mts B base k m ms tb) : Mts B base k m ms ((n, sp) :: tb) := fun n' sp' e => by
  rw [List.lookup_cons] at e
  cases q : n' == n with
  | true => rw [q] at e; cases e; rw [eq_of_beq q]; exact h
  | false => rw [q] at e; exact t n' sp' e
def methD (m : Str) (tb : List (Str × SpM)) (d : D) (K : SpM → Prop) : Prop := match d with
  | .obj n fs => fs.lookup m = none ∧ ∃ sp, tb.lookup n = some sp ∧ K sp
  | _ => False
def dMeth (m : Str) (tb : List (Str × SpM)) (T : DTE) (R : DTA) : DTE := fun ρ M Q E => T ρ M (fun d M1 => methD m tb (drf M1 d) fun sp => R ρ M1 (fun ds M2 => sp (d :: ds) M2 Q E) E) E
def tMethS (X : Cx) (m : Str) (E : L2.St → XK) (k : Nat) (ta : TE) (t : TA) : TE := fun σ H Q => ta σ H fun x H1 => ∃ a C dx fs f fd ps sp, x = .ref a ∧ H1 a = some (.ins C dx fs) ∧ fs.lookup m = none ∧ Cls X.K C ∧ Meth X.K C m f ∧ FnOk X.prog X.w X.K X.mg X.base (L2.CX X.prog X.w) k f fd ps sp ∧ Binds X.K fd ps [] ∧ t σ H1 fun vs H2 => sp (.ref a :: vs) H2 Q (E σ)
theorem pe_methS {m : Str} {k : Nat} {E : L2.St → XK} {pl : Sem Bool} {ta : TE} {t : TA} (he : PE X o ta) (hr : Room k X.A) (hx : ∀ σ, PassesAt (L2.CX X.prog X.w) X σ (E σ)) (ha : PA X (e :: es) t)
    (hst : starEach (e :: es) X.env = (false, eval e X.env) :: starEach es X.env) (hpl : (backTo pos (starEach es X.env)).any (·.1) = false)
    (ht : eval (.Call (.Attribute o m apos) (e :: es) [] pos) X.env = (do
      let ov ← eval o X.env
      standAt apos.atName
      let (f, first) ← holding [ov] (getMethod ov m pl)
      callWith pos f first (backTo pos (starEach (e :: es) X.env)) (backToKw pos (keywordEach [] X.env)))) : PE X (.Call (.Attribute o m apos) (e :: es) [] pos) (tMethS X m E k ta t) := by
  refine ⟨fun pins s σ H Q I h => PySem.W.methodCall_KW (pl := pl) (thn (he.run pins s σ H _ I h) fun u s1 ⟨x, H1, J, rx, a, C, dx, fs, f, fd, ps, sp, ex, ea, l, c, hm, F, hb, q⟩ => ?_) ht⟩
  subst ex
  cases (show u = Value.ref a from rx)
  exact getmeth_ok J ea c hm l (PySem.W.callWith_K (first := [.ref a]) (h₀ := X.base) I.ok.mod.kin hm.kp (thn (ha.run pos pins s1 σ H1 _ J q) fun us s2 ⟨vs, H2, J2, r, q2⟩ => ⟨J2.kIn, run_fnS (us := .ref a :: us) (vs := .ref a :: vs) F hr hb (hx σ) J2 (.cons rfl r) q2⟩) hst hpl)
theorem rf_meth {m : Str} {k : Nat} {ms : List Bool} {tb : List (Str × SpM)} {ta : TE} {t : TA} {R : DTA} (hm : Mts (bx X) X.base k m (false :: ms) tb) (ha : RfE (bx X) wx ta T) (hr : RfM (bx X) wx ms t R) : RfE (bx X) wx (tMethS X m (WE wx) k ta t) (dMeth m tb T R) := fun W0 W mm σ ρ M Q Qd Ed Re mk h1 h2 h3 => by
  refine ha W0 W mm σ ρ M _ _ Ed Re mk h1 (fun d v W' m' M' q le k' hv => ?_) h3
  have hv' := hv.rd.drf k'
  cases z : Z.drf M' d with
  | obj n fs =>
    rw [z] at hv' q
    obtain ⟨a, dx, fv, rfl, h4, h5⟩ := hv'
    obtain ⟨hl, sp, hs, q⟩ := q
    obtain ⟨f, fd, ps, F, c1, c2, c3⟩ := (hm n sp hs).ex
    refine ⟨a, _, dx, fv, f, fd, ps, _, rfl, h4, h5.none hl, c1, c2, F, c3, ?_⟩
    refine hr W0 W' m' σ ρ M' _ _ Ed (Re.mono le) k' q (fun ds vs W2 m2 M2 q2 le2 k2 hv2 => ?_) (h3.up le)
    exact ⟨W2, m2, M2, d :: ds, Qd, Ed, rfl, k2, .dat (hv.mono le2.f) hv2, q2, fun d3 v3 W3 m3 M3 q3 le3 k3 hv3 => h2 d3 v3 W3 m3 M3 q3 ((le.trans le2).trans le3) k3 hv3, fun C W3 m3 M3 q3 le3 k3 => h3 C W3 m3 M3 q3 ((le.trans le2).trans le3) k3⟩
  | _ => rw [z] at q; exact q.elim
theorem de_meth {m : Str} {j k : Nat} {ms : List Bool} {tb : List (Str × SpM)} {R : DTA} {pl : Sem Bool} (hm : Mts (bx X) X.base k m (false :: ms) tb) (hr : Room j X.A) (tk : Takes X wx) (hk : k ≤ j) (ho : DE X wx o T) (ha : DM X wx ms (e :: es) R)
    (hst : starEach (e :: es) X.env = (false, eval e X.env) :: starEach es X.env := by rfl) (hpl : (backTo pos (starEach es X.env)).any (·.1) = false := by rfl)
    (ht : eval (.Call (.Attribute o m apos) (e :: es) [] pos) X.env = (do
      let ov ← eval o X.env
      standAt apos.atName
      let (f, first) ← holding [ov] (getMethod ov m pl)
      callWith pos f first (backTo pos (starEach (e :: es) X.env)) (backToKw pos (keywordEach [] X.env))) := by rfl) : DE X wx (.Call (.Attribute o m apos) (e :: es) [] pos) (dMeth m tb T R) := by
  obtain ⟨ta, po, ro⟩ := ho
  obtain ⟨t, pa, ra⟩ := ha
  exact ⟨_, pe_methS po (hr.mono hk) (fun σ => passAt tk σ) pa hst hpl ht, rf_meth hm ro ra⟩
end
end Z

/-! The facts of the module's text that the walks lean on, read by a hook. -/
namespace Z
open PySem PySem.Spec PyProof.Rows L2
abbrev Fz := PySem.W.Frag → Bool
def obsK (fa : List He.Fa) (fn : List He.DefD) (ez : List Fz) (K : PySem.W.Frag) : He.AlD × Bool := (He.obsD fa fn K, ez.all fun e => e K)
/-! the objects that the module's names reach: each level looks at the new ones alone, and numbers are compared by Nat.beq (the kernel's cost) -/
def memN (a : Nat) : List Nat → Bool
  | [] => false
  | b :: r => match Nat.beq a b with
    | true => true
    | false => memN a r
def putsN : List Nat → List Nat → List Nat → List Nat × List Nat
  | [], seen, nw => (seen, nw)
  | a :: as, seen, nw => match memN a seen with
    | true => putsN as seen nw
    | false => putsN as (a :: seen) (a :: nw)
def asF (g : Addr → Option Obj) : Nat → List Addr → List Addr → List Addr
  | 0, seen, _ => seen.reverse
  | n + 1, seen, front => match putsN (front.flatMap fun a => match g a with
    | some o => He.refsD o
    | none => []) seen [] with
    | (seen, nw) => asF g n seen nw
def obsZ (n : Nat) (fa : List He.Fa) (fn : List He.DefD) (ez : List Fz) (g : Addr → Option Obj) : He.AlD × Bool := obsK fa fn ez (He.frG g (asF g n [mainGlobals] [mainGlobals]))
structure SaysZ (fa : List He.Fa) (fn : List He.DefD) (ez : List Fz) (K : PySem.W.Frag) : Prop where
  d : He.SaysD fa fn K
  z : (ez.all fun e => e K) = true
def hookZ (n : Nat) (fa : List He.Fa) (fn : List He.DefD) (ez : List Fz) : PySem.W.Hook where
  α := He.AlD × Bool
  obs := fun s => obsZ n fa fn ez s.heap.get?
  val := fun _ => (He.valD fn, true)
  says := fun _ h => ∃ K : PySem.W.Frag, K.In h ∧ SaysZ fa fn ez K
  of := fun _ _ e => ⟨_, He.frG_in, congrArg Prod.fst e, congrArg Prod.snd e⟩
  keeps := fun _ _ _ ⟨K, hK, c⟩ k => ⟨K, PySem.W.Frag.In.keeps hK k, c⟩
theorem obsZ_eq {n : Nat} {fa : List He.Fa} {fn : List He.DefD} {ez : List Fz} {g : Addr → Option Obj} {s : Shared} (h : ∀ a, g a = s.heap.get? a) : obsZ n fa fn ez g = (hookZ n fa fn ez).obs s := by
  have e : g = s.heap.get? := funext h
  rw [e] <;> rfl
theorem SaysZ.e {fa : List He.Fa} {fn : List He.DefD} {ez : List Fz} {K : PySem.W.Frag} (c : SaysZ fa fn ez K) (i : Nat) {f : Fz} (h : ez[i]? = some f := by rfl) : f K = true := List.all_eq_true.mp c.z f (List.mem_of_getElem? h)

/-! ### the facts -/
def gB (n : Str) : Fz := fun K => (He.Fa.glo n).ok K
section
variable {P : Program} {w : World} {K : PySem.W.Frag} {h : Heap} {mg : Str → Option Value}
theorem gB_mg (KX : K.In h) (G : h.Ns mainGlobals mg) {n : Str} (c : gB n K = true) : (⟨P, w, K, mg⟩ : Bx).mg n = some (.ref ((⟨P, w, K, mg⟩ : Bx).cl n)) := by
  have e : mg n = some (.ref (He.ga K n)) := He.glo_ok KX G c
  have e2 : (⟨P, w, K, mg⟩ : Bx).cl n = He.ga K n := cl_of e
  rw [e2]; exact e
theorem gB_cl (KX : K.In h) (G : h.Ns mainGlobals mg) {n : Str} (c : gB n K = true) : (⟨P, w, K, mg⟩ : Bx).cl n = He.ga K n := cl_of (He.glo_ok KX G c)
def fldB (f : Str) (cs : List Str) : Fz := fun K => cs.all fun n => gB n K && ((He.Fa.cls n).ok K && (He.Fa.noat n f).ok K)
theorem fldB_ok (KX : K.In h) (G : h.Ns mainGlobals mg) {f : Str} {cs : List Str} (c : fldB f cs K = true) : FldF ⟨P, w, K, mg⟩ f cs := fun n hn => by
  obtain ⟨c1, c2⟩ := He.ba (List.all_eq_true.mp c n hn)
  obtain ⟨c2, c3⟩ := He.ba c2
  rw [gB_cl KX G c1]
  exact ⟨He.cls_ok c2, He.noat_ok c3⟩
def xcB (n : Str) : Fz := fun K => gB n K && (He.Fa.exc n).ok K
theorem xcB_ok (KX : K.In h) (G : h.Ns mainGlobals mg) {n : Str} (c : xcB n K = true) : XcF ⟨P, w, K, mg⟩ n := by
  obtain ⟨c1, c2⟩ := He.ba c
  exact XcF.of (He.glo_ok KX G c1) (He.exc_ok c2)
def mk0B (n : Str) : Fz := fun K => gB n K && (PySem.W.makesIn K (He.ga K n) && (He.eqO (PySem.W.findIn K (.ref (He.ga K n)) "__init__") (some (some (.builtin "object.__init__"))) && PySem.W.keepIn K (.ref (He.ga K n))))
theorem mk0B_ok (KX : K.In h) (G : h.Ns mainGlobals mg) {n : Str} (c : mk0B n K = true) : Mk0F ⟨P, w, K, mg⟩ n := by
  obtain ⟨c1, c2⟩ := He.ba c
  obtain ⟨c2, c3⟩ := He.ba c2
  obtain ⟨c3, c4⟩ := He.ba c3
  have e := gB_cl (P := P) (w := w) KX G c1
  refine ⟨gB_mg KX G c1, ?_, ?_, ?_⟩ <;> rw [e]
  · exact c2
  · exact He.eqO_ok c3
  · exact c4
/-- the method m of n is the def of c -/
def mtB (n m c : Str) : Fz := fun K => gB n K && ((He.Fa.cls n).ok K && ((He.Fa.meth n m).ok K && decide (He.ma K (He.ga K n) m = He.ma K (He.ga K c) m)))
theorem mtB_ok (KX : K.In h) (G : h.Ns mainGlobals mg) {n m c : Str} (q : mtB n m c K = true) : Cls K ((⟨P, w, K, mg⟩ : Bx).cl n) ∧ Meth K ((⟨P, w, K, mg⟩ : Bx).cl n) m (He.ma K (He.ga K c) m) := by
  obtain ⟨c1, q⟩ := He.ba q
  obtain ⟨c2, q⟩ := He.ba q
  obtain ⟨c3, c4⟩ := He.ba q
  rw [gB_cl KX G c1, ← of_decide_eq_true c4]
  exact ⟨He.cls_ok c2, He.meth_ok c3⟩
def mkB (n : Str) : Fz := fun K => gB n K && (He.Fa.mkr n).ok K
theorem mkB_ok (KX : K.In h) (G : h.Ns mainGlobals mg) {n : Str} (q : mkB n K = true) : Mk K ((⟨P, w, K, mg⟩ : Bx).cl n) (He.ma K (He.ga K n) "__init__") := by
  obtain ⟨c1, c2⟩ := He.ba q
  rw [gB_cl KX G c1]
  exact He.mkr_ok c2
theorem MtF.mk' {base : Heap} {k : Nat} {n m c : Str} {fd : FuncData} {ps : List Str} {ms : List Bool} {sp : SpM} (KX : K.In h) (G : h.Ns mainGlobals mg) (q : mtB n m c K = true) (hb : Binds K fd ps []) (F : FnB ⟨P, w, K, mg⟩ base k (He.ma K (He.ga K c) m) fd ps ms sp) : MtF ⟨P, w, K, mg⟩ base k n m ms sp :=
  have e := mtB_ok (P := P) (w := w) KX G q
  ⟨_, fd, ps, F, e.1, e.2, hb⟩
theorem MkF.mk' {base : Heap} {k : Nat} {n : Str} {fd : FuncData} {ps : List Str} {ms : List Bool} {sp : SpM} {dvs : List V} {dv : List D} (KX : K.In h) (G : h.Ns mainGlobals mg) (q : mkB n K = true) (hb : ∃ ds, Vals dvs ds ∧ Binds K fd ps ds) (hd : ∀ F, RpAll ⟨P, w, K, mg⟩ F dvs dv)
    (F : FnB ⟨P, w, K, mg⟩ base k (He.ma K (He.ga K n) "__init__") fd ps ms sp) : MkF ⟨P, w, K, mg⟩ base k n ms dv sp := by
  obtain ⟨ds, h1, h2⟩ := hb
  exact ⟨_, fd, ps, dvs, ds, F, gB_mg KX G (He.ba q).1, mkB_ok KX G q, h2, h1, hd⟩
end
end Z

namespace Z
namespace K12
open PySem PySem.Spec PyProof.Rows L2
def top (i : Nat) : Stmt := PySem.Challenge.pw_kbestwood_k12_grammars_written.main.body.getD i (.Pass ⟨0, 0, 0, 0⟩)
abbrev s_l_mix : Stmt := top 52
abbrev s_l_at : Stmt := top 51
abbrev s_l_names : Stmt := top 53
abbrev s_l_lowest : Stmt := top 54
abbrev s_l_weight_k09 : Stmt := top 55
abbrev s_l_wild_parts : Stmt := top 56
abbrev s_l_wild_rows_k11 : Stmt := top 57
abbrev s_l_own_words : Stmt := top 61
abbrev s_l_line : Stmt := top 60
abbrev s_fraction_text : Stmt := top 19
abbrev s_rule_text : Stmt := top 44
abbrev s_grammar_text : Stmt := top 45
abbrev s_line_words : Stmt := top 43
abbrev s_is_name_k12 : Stmt := top 31
abbrev s_is_word : Stmt := top 33
abbrev s_is_kind : Stmt := top 32
abbrev s_are_figures_k12 : Stmt := top 20
abbrev s_common_divisor : Stmt := top 14
abbrev s_fraction : Stmt := top 15
abbrev s_read_fraction : Stmt := top 21
abbrev s_all_words : Stmt := top 34
abbrev s_read_ties : Stmt := top 46
abbrev s_Rule_init : Stmt := inClass (top 35) 0
abbrev s_read_rule : Stmt := top 47
abbrev s_grammar_rows : Stmt := top 48
abbrev s_left_out : Stmt := top 42
abbrev s_Chance_takes : Stmt := inClass (top 25) 2
abbrev s_Scale_takes : Stmt := inClass (top 23) 2
abbrev s_look_at_weights : Stmt := top 36
abbrev s_scale_of : Stmt := top 26
abbrev s_look_at_kinds : Stmt := top 37
abbrev s_single_kinds : Stmt := top 38
abbrev s_comes_back : Stmt := top 39
abbrev s_Grammar_init : Stmt := inClass (top 40) 0
abbrev s_read_grammar : Stmt := top 49
abbrev s_l_rule_is : Stmt := top 58
abbrev s_l_kept : Stmt := top 59
abbrev s_law_k12 : Stmt := top 62
def d_l_mix : He.DefD := ⟨("_law_mix", none), "_law_mix", "_law_mix", defArgs s_l_mix, defBody s_l_mix, defScope s_l_mix, [], []⟩
def d_l_at : He.DefD := ⟨("_law_at", none), "_law_at", "_law_at", defArgs s_l_at, defBody s_l_at, defScope s_l_at, [], []⟩
def d_l_names : He.DefD := ⟨("_law_names", none), "_law_names", "_law_names", defArgs s_l_names, defBody s_l_names, defScope s_l_names, [], []⟩
def d_l_lowest : He.DefD := ⟨("_law_lowest", none), "_law_lowest", "_law_lowest", defArgs s_l_lowest, defBody s_l_lowest, defScope s_l_lowest, [], []⟩
def d_l_weight_k09 : He.DefD := ⟨("_law_weight", none), "_law_weight", "_law_weight", defArgs s_l_weight_k09, defBody s_l_weight_k09, defScope s_l_weight_k09, [], []⟩
def d_l_wild_parts : He.DefD := ⟨("_law_wild_parts", none), "_law_wild_parts", "_law_wild_parts", defArgs s_l_wild_parts, defBody s_l_wild_parts, defScope s_l_wild_parts, [], []⟩
def d_l_wild_rows_k11 : He.DefD := ⟨("_law_wild_rows", none), "_law_wild_rows", "_law_wild_rows", defArgs s_l_wild_rows_k11, defBody s_l_wild_rows_k11, defScope s_l_wild_rows_k11, [], []⟩
def d_l_own_words : He.DefD := ⟨("_law_own_words", none), "_law_own_words", "_law_own_words", defArgs s_l_own_words, defBody s_l_own_words, defScope s_l_own_words, [], []⟩
def d_l_line : He.DefD := ⟨("_law_line", none), "_law_line", "_law_line", defArgs s_l_line, defBody s_l_line, defScope s_l_line, [], []⟩
def d_fraction_text : He.DefD := ⟨("fraction_text", none), "fraction_text", "fraction_text", defArgs s_fraction_text, defBody s_fraction_text, defScope s_fraction_text, [], []⟩
def d_rule_text : He.DefD := ⟨("rule_text", none), "rule_text", "rule_text", defArgs s_rule_text, defBody s_rule_text, defScope s_rule_text, [], []⟩
def d_grammar_text : He.DefD := ⟨("grammar_text", none), "grammar_text", "grammar_text", defArgs s_grammar_text, defBody s_grammar_text, defScope s_grammar_text, [], []⟩
def d_line_words : He.DefD := ⟨("line_words", none), "line_words", "line_words", defArgs s_line_words, defBody s_line_words, defScope s_line_words, [], []⟩
def d_is_name_k12 : He.DefD := ⟨("is_name", none), "is_name", "is_name", defArgs s_is_name_k12, defBody s_is_name_k12, defScope s_is_name_k12, [], []⟩
def d_is_word : He.DefD := ⟨("is_word", none), "is_word", "is_word", defArgs s_is_word, defBody s_is_word, defScope s_is_word, [], []⟩
def d_is_kind : He.DefD := ⟨("is_kind", none), "is_kind", "is_kind", defArgs s_is_kind, defBody s_is_kind, defScope s_is_kind, [], []⟩
def d_are_figures_k12 : He.DefD := ⟨("are_figures", none), "are_figures", "are_figures", defArgs s_are_figures_k12, defBody s_are_figures_k12, defScope s_are_figures_k12, [], []⟩
def d_common_divisor : He.DefD := ⟨("common_divisor", none), "common_divisor", "common_divisor", defArgs s_common_divisor, defBody s_common_divisor, defScope s_common_divisor, [], []⟩
def d_fraction : He.DefD := ⟨("fraction", none), "fraction", "fraction", defArgs s_fraction, defBody s_fraction, defScope s_fraction, [], []⟩
def d_read_fraction : He.DefD := ⟨("read_fraction", none), "read_fraction", "read_fraction", defArgs s_read_fraction, defBody s_read_fraction, defScope s_read_fraction, [], []⟩
def d_all_words : He.DefD := ⟨("all_words", none), "all_words", "all_words", defArgs s_all_words, defBody s_all_words, defScope s_all_words, [], []⟩
def d_read_ties : He.DefD := ⟨("read_ties", none), "read_ties", "read_ties", defArgs s_read_ties, defBody s_read_ties, defScope s_read_ties, [], []⟩
def d_Rule_init : He.DefD := ⟨("Rule", some "__init__"), "__init__", "Rule.__init__", defArgs s_Rule_init, defBody s_Rule_init, defScope s_Rule_init, [.str "", .non], []⟩
def d_read_rule : He.DefD := ⟨("read_rule", none), "read_rule", "read_rule", defArgs s_read_rule, defBody s_read_rule, defScope s_read_rule, [], []⟩
def d_grammar_rows : He.DefD := ⟨("grammar_rows", none), "grammar_rows", "grammar_rows", defArgs s_grammar_rows, defBody s_grammar_rows, defScope s_grammar_rows, [], []⟩
def d_left_out : He.DefD := ⟨("left_out", none), "left_out", "left_out", defArgs s_left_out, defBody s_left_out, defScope s_left_out, [], []⟩
def d_Chance_takes : He.DefD := ⟨("Chance", some "takes"), "takes", "Chance.takes", defArgs s_Chance_takes, defBody s_Chance_takes, defScope s_Chance_takes, [], []⟩
def d_Scale_takes : He.DefD := ⟨("Scale", some "takes"), "takes", "Scale.takes", defArgs s_Scale_takes, defBody s_Scale_takes, defScope s_Scale_takes, [], []⟩
def d_look_at_weights : He.DefD := ⟨("look_at_weights", none), "look_at_weights", "look_at_weights", defArgs s_look_at_weights, defBody s_look_at_weights, defScope s_look_at_weights, [], []⟩
def d_scale_of : He.DefD := ⟨("scale_of", none), "scale_of", "scale_of", defArgs s_scale_of, defBody s_scale_of, defScope s_scale_of, [], []⟩
def d_look_at_kinds : He.DefD := ⟨("look_at_kinds", none), "look_at_kinds", "look_at_kinds", defArgs s_look_at_kinds, defBody s_look_at_kinds, defScope s_look_at_kinds, [], []⟩
def d_single_kinds : He.DefD := ⟨("single_kinds", none), "single_kinds", "single_kinds", defArgs s_single_kinds, defBody s_single_kinds, defScope s_single_kinds, [], []⟩
def d_comes_back : He.DefD := ⟨("comes_back", none), "comes_back", "comes_back", defArgs s_comes_back, defBody s_comes_back, defScope s_comes_back, [], []⟩
def d_Grammar_init : He.DefD := ⟨("Grammar", some "__init__"), "__init__", "Grammar.__init__", defArgs s_Grammar_init, defBody s_Grammar_init, defScope s_Grammar_init, [], []⟩
def d_read_grammar : He.DefD := ⟨("read_grammar", none), "read_grammar", "read_grammar", defArgs s_read_grammar, defBody s_read_grammar, defScope s_read_grammar, [], []⟩
def d_l_rule_is : He.DefD := ⟨("_law_rule_is", none), "_law_rule_is", "_law_rule_is", defArgs s_l_rule_is, defBody s_l_rule_is, defScope s_l_rule_is, [], []⟩
def d_l_kept : He.DefD := ⟨("_law_kept", none), "_law_kept", "_law_kept", defArgs s_l_kept, defBody s_l_kept, defScope s_l_kept, [], []⟩
def d_law_k12 : He.DefD := ⟨("law", none), "law", "law", defArgs s_law_k12, defBody s_law_k12, defScope s_law_k12, [], []⟩
def fn : List He.DefD := ([d_l_mix, d_l_at, d_l_names, d_l_lowest, d_l_weight_k09, d_l_wild_parts, d_l_wild_rows_k11, d_l_own_words, d_l_line, d_fraction_text, d_rule_text, d_grammar_text, d_line_words, d_is_name_k12, d_is_word, d_is_kind, d_are_figures_k12, d_common_divisor, d_fraction, d_read_fraction, d_all_words, d_read_ties, d_Rule_init, d_read_rule, d_grammar_rows] : List He.DefD) ++ (([d_left_out, d_Chance_takes, d_Scale_takes, d_look_at_weights, d_scale_of, d_look_at_kinds, d_single_kinds, d_comes_back, d_Grammar_init, d_read_grammar, d_l_rule_is, d_l_kept, d_law_k12] : List He.DefD))
def fa : List He.Fa := ([.glo "_law_mix", .glo "_law_at", .glo "_law_names", .glo "_law_lowest", .glo "_law_weight", .glo "_law_wild_parts", .glo "_law_wild_rows", .glo "_law_own_words", .glo "_law_line", .glo "fraction_text", .glo "rule_text", .glo "grammar_text", .glo "line_words", .glo "is_name", .glo "is_word", .glo "is_kind", .glo "are_figures", .glo "common_divisor", .glo "fraction", .glo "read_fraction", .glo "all_words", .glo "read_ties", .glo "read_rule", .glo "grammar_rows", .glo "left_out"] : List He.Fa) ++ (([.glo "look_at_weights", .glo "scale_of", .glo "look_at_kinds", .glo "single_kinds", .glo "comes_back", .glo "read_grammar", .glo "_law_rule_is", .glo "_law_kept", .glo "law", .free "len", .free "range", .free "abs", .free "int", .free "list", .free "str", .str "SMALL" "abcdefghijklmnopqrstuvwxyz", .str "GREAT" "ABCDEFGHIJKLMNOPQRSTUVWXYZ", .str "FIGURES_grammars" "0123456789", .int "MOST_FIGURES" 40, .str "FIGURES_fractions" "0123456789", .free "all", .free "tuple", .free "isinstance", .free "zip", .free "enumerate"] : List He.Fa))
def names : List PySem.Str := (["_wall", "__name__", "WoodError", "NoLine", "NoScale", "NoRule", "NoWeight", "Twice", "NoTitle", "NoKind", "Ring", "FIGURES_fractions", "MOST_FIGURES", "common_divisor", "fraction", "sum_of", "product_of", "compared", "fraction_text", "are_figures", "read_fraction", "Scale", "Cost", "Chance", "scale_of"] : List PySem.Str) ++ ((["SMALL", "GREAT", "FIGURES_grammars", "is_name", "is_kind", "is_word", "all_words", "Rule", "look_at_weights", "look_at_kinds", "single_kinds", "comes_back", "Grammar", "left_out", "line_words", "rule_text", "grammar_text", "read_ties", "read_rule", "grammar_rows", "read_grammar", "_law_at", "_law_mix", "_law_names", "_law_lowest"] : List PySem.Str) ++ ((["_law_weight", "_law_wild_parts", "_law_wild_rows", "_law_rule_is", "_law_kept", "_law_line", "_law_own_words"] : List PySem.Str)))
abbrev R : PySem.W.OpenRow := PySem.W.OpenLaw.row PySem.Challenge.rw_kbestwood_k12_grammars_written
def ez : List Fz := [fldB "title" ["Rule"], fldB "head" ["Rule"], fldB "parts" ["Rule"], fldB "weight" ["Rule"], fldB "tag" ["Rule"], fldB "under" ["Rule"], fldB "scale" ["Grammar"], fldB "start" ["Grammar"], fldB "rules" ["Grammar"], xcB "NoLine", xcB "NoRule", mkB "Rule", xcB "NoWeight", xcB "Twice", mtB "Chance" "takes" "Chance", mtB "Cost" "takes" "Scale", mk0B "Cost", mk0B "Chance", xcB "NoScale", xcB "NoKind", xcB "NoTitle", xcB "Ring", mkB "Grammar"]
abbrev hk : PySem.W.Hook := hookZ 5 fa fn ez
def ob (s : PySem.W.SharedT) : He.AlD × Bool := obsZ 5 fa fn ez (HandSHeadRun.getT s)
theorem ob_eq (s : PySem.W.SharedT) : ob s = hk.obs s.abs := obsZ_eq (HandSHeadRun.getT_eq s)
theorem runA (w : World) (os : PySem.OsState) : (HandSHeadRun.endF (HandSHeadRun.stepQ (HandSHeadRun.denQ HandSHeadRun.tabQ) R.prog w) 20000 R.prog w os).map (fun s => HandSHeadRun.looksF R.prog (PySem.W.boot_heap w.params) s.abs) = some true := by
  kernel_rfl
theorem runB (w : World) (os : PySem.OsState) : (HandSHeadRun.endF (HandSHeadRun.stepQ (HandSHeadRun.denQ HandSHeadRun.tabQ) R.prog w) 20000 R.prog w os).map (fun s => HandSHeadRun.seenQ (PySem.W.view R.prog [62]) names (PySem.importedModules R.prog.main.body) (fun s => PySem.W.xlAt (PySem.W.view R.prog [62]) [] s && PySem.W.recOk R.toRowW.records s) s.abs) = some (PySem.W.openGood (PySem.W.view R.prog [62]) names) := by
  kernel_rfl
def vs : List He.FnW := ([He.DefD.val d_l_mix, He.DefD.val d_l_at, He.DefD.val d_l_names, He.DefD.val d_l_lowest, He.DefD.val d_l_weight_k09, He.DefD.val d_l_wild_parts, He.DefD.val d_l_wild_rows_k11, He.DefD.val d_l_own_words, He.DefD.val d_l_line, He.DefD.val d_fraction_text, He.DefD.val d_rule_text, He.DefD.val d_grammar_text, He.DefD.val d_line_words, He.DefD.val d_is_name_k12, He.DefD.val d_is_word, He.DefD.val d_is_kind, He.DefD.val d_are_figures_k12, He.DefD.val d_common_divisor, He.DefD.val d_fraction, He.DefD.val d_read_fraction, He.DefD.val d_all_words, He.DefD.val d_read_ties, He.DefD.val d_Rule_init, He.DefD.val d_read_rule, He.DefD.val d_grammar_rows] : List He.FnW) ++ (([He.DefD.val d_left_out, He.DefD.val d_Chance_takes, He.DefD.val d_Scale_takes, He.DefD.val d_look_at_weights, He.DefD.val d_scale_of, He.DefD.val d_look_at_kinds, He.DefD.val d_single_kinds, He.DefD.val d_comes_back, He.DefD.val d_Grammar_init, He.DefD.val d_read_grammar, He.DefD.val d_l_rule_is, He.DefD.val d_l_kept, He.DefD.val d_law_k12] : List He.FnW))
theorem runC (w : World) (os : PySem.OsState) : (HandSHeadRun.endF (HandSHeadRun.stepQ (HandSHeadRun.denQ HandSHeadRun.tabQ) R.prog w) 20000 R.prog w os).map (fun s => ob s) = some ((true, vs), true) := by
  kernel_rfl
theorem map3 {α β γ δ : Type} {o : Option α} {f : α → β} {g : α → γ} {h : α → δ} {a : β} {b : γ} {c : δ} (h1 : o.map f = some a) (h2 : o.map g = some b) (h3 : o.map h = some c) : o.map (fun x => (f x, g x, h x)) = some (a, b, c) := by
  cases o with
  | none => cases h1
  | some x => cases h1; cases h2; cases h3; rfl
theorem run (w : World) : HandSHeadRun.RunEq R (PySem.W.view R.prog [62]) hk ob 20000 names w := fun os => map3 (runA w os) (runB w os) ((runC w os).trans (congrArg some (show ((true, vs), true) = hk.val w from rfl)))
end K12
end Z

/-! More built-ins. -/
namespace Z
open PySem PySem.Spec PyProof.Rows L2
open Evl (Ex)
/-! ### text * int -/
def repS (z : Str) (n : Nat) : Str := ⟨(List.replicate n z.cps.toList).flatten.toArray⟩
theorem fold_rep (a : Array Nat) : ∀ (n : Nat) (acc : Array Nat), (List.replicate n a).foldl (· ++ ·) acc = acc ++ (List.replicate n a.toList).flatten.toArray
  | 0, acc => by simp
  | n + 1, acc => by
    rw [List.replicate_succ, List.foldl_cons, fold_rep a n, List.replicate_succ, List.flatten_cons]
    apply Array.ext'
    simp
theorem repS_fold (z : Str) (n : Nat) : (⟨(List.replicate n z.cps).foldl (· ++ ·) #[]⟩ : Str) = repS z n := by
  unfold repS
  rw [fold_rep]
  simp
theorem repS_one (z : Str) : repS z 1 = z := by
  obtain ⟨c⟩ := z
  simp [repS]
theorem repS_nil (z : Str) (n : Nat) (h : z.length = 0) : repS z n = z := by
  obtain ⟨c⟩ := z
  have h : c.size = 0 := h
  have : c = #[] := Array.eq_empty_of_size_eq_zero h
  subst this
  simp [repS]
theorem rep_len (l : List Nat) : ∀ n : Nat, (List.replicate n l).flatten.length = n * l.length
  | 0 => by simp
  | n + 1 => by rw [List.replicate_succ, List.flatten_cons, List.length_append, rep_len l n]; rw [Nat.succ_mul, Nat.add_comm]
theorem repS_len (z : Str) (n : Nat) : (repS z n).length = n * z.length := by
  obtain ⟨c⟩ := z
  show (List.replicate n c.toList).flatten.toArray.size = n * c.size
  rw [List.size_toArray, rep_len]
  simp
def rSMul : R2 := fun x y H Q => ∃ z n, x = .str z ∧ y = .int n ∧ 0 ≤ n ∧ n < 2 ^ 30 ∧ z.length * n.toNat ≤ sizeLine ∧ Q (.str (repS z n.toNat)) H
section
variable {X : Cx}
theorem op_smul : OpR X (binaryOp .Mult) rSMul := by
  intro pins s σ H x y v u Q I rx ry h
  obtain ⟨z, n, rfl, rfl, h0, h1, hz, q⟩ := h
  obtain ⟨t, rfl⟩ := rx
  obtain ⟨t2, rfl⟩ := ry
  have hl : Builtin.Str.tooLong (z.length * n.toNat) = false := by
    unfold Builtin.Str.tooLong
    exact decide_eq_false (Nat.not_lt.mpr hz)
  refine PySem.P.mul_str (by
      have a1 : ¬ n < -(2 ^ 63 : Int) := by omega
      have a2 : ¬ n ≥ 2 ^ 63 := by omega
      rw [decide_eq_false a1, decide_eq_false a2]; rfl) (fun h2 _ => ?_) (fun _ _ => hl) ?_
  · have e : n = (n.toNat : Int) := by omega
    have hs : (sizeLine : Nat) ≤ 2 ^ 40 := by decide
    have h3 : (z.length : Int) * n ≤ 2 ^ 40 := by
      rw [e]
      have : ((z.length * n.toNat : Nat) : Int) ≤ 2 ^ 40 := by omega
      rwa [Int.natCast_mul] at this
    have : (z.length : Int) ≤ (2 ^ 63 - 1) / n := (Int.le_ediv_iff_mul_le (by omega)).mpr (by omega)
    omega
  · split
    · rename_i h2
      have e : n.toNat = 0 := by omega
      rw [e] at q
      exact ⟨by decide, ⟨.str _, H, I.tok _, ⟨_, rfl⟩, q⟩⟩
    · split
      · rename_i h2 h3
        have e : repS z n.toNat = z := by
          rw [Bool.or_eq_true] at h3
          rcases h3 with h3 | h3
          · have := eq_of_beq h3
            subst this
            exact repS_one z
          · exact repS_nil z _ (eq_of_beq h3)
        rw [e] at q
        exact ⟨.str z, H, I, ⟨t, rfl⟩, q⟩
      · rw [repS_fold]
        refine ⟨?_, ⟨.str _, H, I.tok _, ⟨_, rfl⟩, q⟩⟩
        rw [repS_len, Nat.mul_comm]
        exact hz
end
/-- *: ints, a text and an int -/
def oMulA (x y : D) (Q : D → Prop) : Prop := match x, y with
  | .int i, .int j => Sm i ∧ Sm j ∧ Q (.int (i * j))
  | .str z, .int n => 0 ≤ n ∧ n < 2 ^ 30 ∧ z.length * n.toNat ≤ sizeLine ∧ Q (.str (repS z n.toNat))
  | _, _ => False
section
variable {X : Cx} {wx : WX} {e a b ob ce : Expr} {Ta Tb To T : DTE} {pos : Pos}
theorem rf_mulA {B : Bx} : RfO B (fun x y H Q => rI CMulW (fun i j => .int (i * j)) x y H Q ∨ rSMul x y H Q) oMulA := by
  intro W m M x y dx dy Q Qd mk rx ry h k
  unfold oMulA at h
  split at h
  · cases rx
    cases ry
    refine .inl ⟨_, _, rfl, rfl, ?_, k _ _ W h.2.2 (Wd.le.refl W) mk (.int _)⟩
    have h1 := h.1.log
    have h2 := h.2.1.log
    unfold CMulW
    omega
  · cases rx
    cases ry
    exact .inr ⟨_, _, rfl, rfl, h.1, h.2.1, h.2.2.1, k _ _ W h.2.2.2 (Wd.le.refl W) mk (.str _)⟩
  · exact h.elim
theorem de_mulA (ha : DR X wx a Ta) (hb : DR X wx b Tb) : DE X wx (.BinOp a .Mult b pos) (dOp oMulA Ta Tb) := de_op (op_mulW.or op_smul) rf_mulA ha hb
/-! ### methods of texts without arguments -/
def dSM0 (o : SO) (To : DTE) : DTE := fun ρ M Q E => To ρ M (fun x M1 => onStr x fun z => o z [] fun d => Q d M1) E
def soUpper : SO := fun x ds Q => match ds with | [] => x.length ≤ 5592405 ∧ Q (.str (Txt.upper x)) | _ => False
def soLower : SO := fun x ds Q => match ds with | [] => x.length ≤ 5592405 ∧ Q (.str (Txt.lower x)) | _ => False
def soIsupper : SO := fun x ds Q => match ds with | [] => True ∧ Q (.bl (Txt.isupper x)) | _ => False
/-! ### list * int -/
def dRepN (T : DTA) (Tb : DTE) : DTA := fun ρ M Q E => T ρ M (fun ds M1 => Tb ρ M1 (fun d M2 => match d with | .int n => 0 ≤ n ∧ n < 2 ^ 30 ∧ ds.length * n.toNat ≤ sizeLine ∧ Q (List.replicate n.toNat ds).flatten M2 | _ => False) E) E
end
/-! ### a op1 b op2 c op3 d -/
section
variable {X : Cx} {wx : WX} {a b c d : Expr} {ta tb tc td : TE} {Ta Tb Tc Td : DTE} {pos : Pos} {op1 op2 op3 : CmpOp} {r1 r2 r3 : R2} {o1 o2 o3 : OpD}
/-- .. -/
def dChain3 (o1 o2 o3 : OpD) (a b c d : DTE) : DTE := fun ρ M Q E => a ρ M (fun x M1 => b ρ M1 (fun y M2 => o1 (drf M2 x) (drf M2 y) fun z => match z with
  | .bl k => if k = true then c ρ M2 (fun w M3 => o2 (drf M3 y) (drf M3 w) fun z2 => match z2 with
    | .bl k2 => if k2 = true then d ρ M3 (fun v M4 => o3 (drf M4 w) (drf M4 v) fun e => Q e M4) E else Q (.bl false) M3
    | _ => False) E else Q (.bl false) M2
  | _ => False) E) E
end
/-! ### try .. except X: .. except Y: .. -/
abbrev DHd := List (List Str × List Str × DTS)
def exM (DD : DEnds) : DHd → Str → List Ent → Mu → Prop
  | [] => DD.ex
  | (yes, no, Su) :: r => fun C ρ M => (C ∈ yes ∧ Su { DD with ex := fun _ _ _ => False } ρ M) ∨ (C ∈ no ∧ exM DD r C ρ M)
inductive DHds (X : Cx) : List ExceptHandler → DHd → Prop
  | nil : DHds X [] []
  | cons {x : Str} {yes no : List Str} {Su : DTS} {b₀ : Stmt} {suite : List Stmt} {np pos' : Pos} {hds : List ExceptHandler} {l : DHd} (hx : ExcF (bx X) x yes no) (hg : Gl X x) (hd : (x == ("__debug__" : Str)) = false)
      (hsu : ∀ (a : Addr) (pn : List (Addr × Obj)), DSs (X.suite a pn) (fun _ _ _ _ => False) (b₀ :: suite) Su) (r : DHds X hds l) : DHds X (.ExceptHandler (some (.Name x np)) none (b₀ :: suite) pos' :: hds) ((yes, no, Su) :: l)
theorem DHds.ok {X : Cx} {wx : WX} {hds : List ExceptHandler} {l : DHd} (h : DHds X hds l) : ∃ l', HdsOk X hds l' ∧ ∀ (W0 : Wd) (D : Ends) (DD : DEnds), EndsOk (bx X) wx W0 D DD → ∀ (C : Str) (W : Wd) (m : Hp) (σ : L2.St) (ρ : List Ent) (M : Mu), Rel (bx X) W0 W σ ρ → MOk (bx X) W M m → exM DD l C ρ M →
    wMany X.K wx D l' (.ref ((bx X).cl C)) none σ (cat W.H m) := by
  induction h with
  | nil => exact ⟨[], .nil, fun W0 D DD k C W m σ ρ M R mk q => k.ex C W m σ ρ M R mk q⟩
  | @cons x yes no Su b₀ suite np pos' hds l hx hg hd hsu r ih =>
    obtain ⟨l', h1, h2⟩ := ih
    refine ⟨(.ref ((bx X).cl x), fun a _ _ D σ H => ∀ pn, (hsu a pn).choose D σ H) :: l', .cons ⟨hg, hd, .inl hx.mg⟩ (fun a oe cls d pn _ _ => ⟨fun pins s σ H D I q => ?_⟩) h1, fun W0 D DD k C W m σ ρ M R mk q => ?_⟩
    · exact (hsu a ((a, oe) :: pn)).choose_spec.1.run pins s σ H D I (q _)
    · rcases q with ⟨hy, q⟩ | ⟨hn, q⟩
      · exact ⟨true, hx.yes C hy, (fun _ a _ pn => (hsu a pn).choose_spec.2 W0 W m σ ρ M D _ R mk q ⟨k.nx, k.rt, k.bk, k.ct, fun _ _ _ _ _ _ _ _ z => z⟩), (fun z => by cases z)⟩
      · exact ⟨false, hx.no C hn, (fun z => by cases z), fun _ => h2 W0 D DD k C W m σ ρ M R mk q⟩
def dTryM (l : DHd) (S : DTS) : DTS := fun DD ρ M => S { DD with ex := exM DD l } ρ M
end Z

/-! Still more built-ins: all, any, sum, zip, list(reversed(..)). -/
namespace Z
open PySem PySem.Spec PyProof.Rows L2
open Evl (Ex)
/-! ### all, any, sum -/
def bls : List D → Option (List Bool)
  | [] => some []
  | .bl b :: r => (bls r).map (b :: ·)
  | _ :: _ => none
theorem bls_of : ∀ {ds : List D} {ys : List Bool}, bls ds = some ys → ds = ys.map .bl
  | [], ys, h => by cases h; rfl
  | .bl x :: r, ys, h => by
    unfold bls at h
    obtain ⟨zs, h1, h2⟩ := Option.map_eq_some_iff.mp h
    subst h2
    rw [bls_of h1]; rfl
  | .non :: _, _, h => by cases h
  | .str _ :: _, _, h => by cases h
  | .int _ :: _, _, h => by cases h
  | .lst _ :: _, _, h => by cases h
  | .tup _ :: _, _, h => by cases h
  | .obj _ _ :: _, _, h => by cases h
  | .ref _ :: _, _, h => by cases h
  | .ty _ :: _, _, h => by cases h
  | .cls _ :: _, _, h => by cases h
  | .exc _ :: _, _, h => by cases h
  | .dic _ _ :: _, _, h => by cases h
theorem bls_map : ∀ ys : List Bool, bls (ys.map .bl) = some ys
  | [] => rfl
  | y :: ys => by show (bls (ys.map .bl)).map (y :: ·) = _; rw [bls_map ys]; rfl
def oAll (ds : List D) (Q : D → Prop) : Prop := match ds with | [.lst xs] => ∃ bs, bls xs = some bs ∧ Q (.bl (bs.all id)) | _ => False
theorem rf_all {B : Bx} : RfC B (rAll B.K) oAll := by
  intro W m M vs ds Q Qd mk rs h k
  unfold oAll at h
  split at h
  · obtain ⟨bs, e, h⟩ := h
    have e := bls_of e
    subst e
    cases rs with
    | cons r t =>
      cases t
      obtain ⟨p, vs, rfl, s1, s2⟩ := r
      rw [s2.bls] at s1
      exact ⟨p, bs, rfl, s1, k _ _ W h (Wd.le.refl W) mk (.bl _)⟩
  · exact h.elim
/-! ### zip of two lists or two tuples -/
def zipD (xs ys : List D) : List D := (xs.zip ys).map fun p => D.tup [p.1, p.2]
theorem zipD_get {xs ys : List D} {i : Nat} {d : D} (h : (zipD xs ys)[i]? = some d) : ∃ x y, xs[i]? = some x ∧ ys[i]? = some y ∧ d = .tup [x, y] := by
  unfold zipD at h
  rw [List.getElem?_map] at h
  obtain ⟨p, h1, h2⟩ := Option.map_eq_some_iff.mp h
  rw [List.getElem?_zip_eq_some] at h1
  exact ⟨p.1, p.2, h1.1, h1.2, h2.symm⟩
theorem zipD_len (xs ys : List D) : (zipD xs ys).length = min xs.length ys.length := by simp [zipD]
def dZip (R : DTA) : DTA := fun ρ M Q E => R ρ M (fun ds M' => match ds with | [.lst xs, .lst ys] => Q (zipD xs ys) M' | [.tup xs, .tup ys] => Q (zipD xs ys) M' | _ => False) E
section
variable {X : Cx} {wx : WX} {e a b : Expr} {T Ta Tb : DTE} {pos : Pos}
end
/-! ### list(reversed(xs)) -/
section
variable {prog : Program} {w : World} {A : Around} {E : Value → Shared → Prop} {s : Shared}
end
section
variable {X : Cx} {wx : WX} {e a b : Expr} {T Ta Tb : DTE} {pos : Pos}
def oListRev (x : D) (Q : List D → Prop) : Prop := match x with | .lst xs => Q xs.reverse | _ => False
def dListRev (T : DTE) : DTA := fun ρ M Q E => T ρ M (fun x M' => oListRev (drf M' x) fun ds => Q ds M') E
end
end Z

/-! Dicts, and lists of the store. -/
namespace Z
open PySem PySem.Spec PyProof.Rows L2
open Evl (Ex)
/-! ### the store -/
def obD : Ob → D
  | .lst ds => .lst ds
  | .dic t ks => .dic t ks
  | .ins n fs => .obj n fs
theorem MOk.nn {B : Bx} {W : Wd} {M : Mu} {m : Hp} (k : MOk B W M m) {p : Addr} (h : m p = none) : M p = none := by
  cases z : M p with
  | none => rfl
  | some ob => have o1 := k.ok p; rw [z] at o1; exact absurd h o1.ne
/-- a thing of the store is frozen -/
theorem MOk.freezeA {B : Bx} {W : Wd} {M : Mu} {m : Hp} {a : Addr} {ob : Ob} (h : MOk B W M m) (e : M a = some ob) : ∃ W' m', cat W'.H m' = cat W.H m ∧ W.le W' ∧ MOk B W' (delM M a) m' ∧ Rp B W'.F (.ref a) (obD ob) := by
  have hH := h.hn e
  have o1 := h.ok a
  rw [e] at o1
  have go : ∀ o : HO, m a = some o → (∀ F', Ex W.F F' → F' a = some o → Rp B F' (.ref a) (obD ob)) → ∃ W' m', cat W'.H m' = cat W.H m ∧ W.le W' ∧ MOk B W' (delM M a) m' ∧ Rp B W'.F (.ref a) (obD ob) := fun o o2 o3 => by
    refine ⟨W.new a o, fun b => if b = a then none else m b, ?_, W.le_new hH, ⟨fun b hb => ?_, fun b => ?_⟩, o3 _ (W.le_new hH).f upd_same⟩
    · funext b
      by_cases z : b = a
      · subst z
        rw [cat_some (show (W.new b o).H b = _ from upd_same), cat_none hH, o2]
      · unfold cat
        dsimp only
        rw [show (W.new a o).H b = W.H b from upd_ne z, if_neg z]
    · by_cases z : b = a
      · rw [if_pos z]
      · rw [if_neg z]
        refine h.dj b ?_
        rw [← show (W.new a o).H b = W.H b from upd_ne z]; exact hb
    · unfold delM
      by_cases z : b = a
      · rw [if_pos z, if_pos z]; trivial
      · rw [if_neg z, if_neg z]; exact (h.ok b).mono (W.le_new hH).f
  cases ob with
  | lst ds => obtain ⟨vs, o2, o3⟩ := o1; exact go _ o2 fun F' ex hf => .lst (SqL.of hf) (o3.mono ex)
  | dic t ks =>
    rcases o1 with ⟨rfl, kv, o, o2, o3⟩ | ⟨rfl, xs, o, o2, o3⟩
    · exact go _ o2 fun F' ex hf => .dic hf (o3.mono ex)
    · exact go _ o2 fun F' ex hf => .dit hf (o3.mono ex)
  | ins n fs => obtain ⟨dx, fv, o2, o3⟩ := o1; exact go _ o2 fun F' ex hf => .obj hf (o3.mono ex)
section
variable {X : Cx} {wx : WX} {e a b c o f : Expr} {es : List Expr} {T Ta Tb Tc To Tk Tx : DTE} {pos pos' apos : Pos} {st : Stmt} {S : DTS} {rest : List Stmt}
/-- a name that points to a thing of the store: the thing is frozen ahead of a statement -/
def dFrzM (i : Nat) (S : DTS) : DTS := fun DD ρ M => match ga ρ i with
  | .dat (.ref a) => (match M a with | some ob => S DD (ρ.set i (.dat (obD ob))) (delM M a) | none => S DD ρ M)
  | _ => S DD ρ M
theorem rf_frzM {B : Bx} {t : TS} (i : Nat) (r : RfS B wx t S) : RfS B wx t (dFrzM i S) := fun W0 W m σ ρ M D DD R mk h k => by
  unfold dFrzM at h
  split at h
  · rename_i a z
    cases y : M a with
    | none => rw [y] at h; exact r W0 W m σ ρ M D DD R mk h k
    | some ob =>
      rw [y] at h
      obtain ⟨W', m', e1, le, mk', rp⟩ := mk.freezeA y
      obtain ⟨v, e2, rv⟩ := R.dat z
      cases rv
      have R' := (R.mono le).set (i := i) rp
      rw [set_same e2] at R'
      have q := r W0 W' m' σ _ _ D DD R' mk' h k
      rw [e1] at q
      exact q
  · exact r W0 W m σ ρ M D DD R mk h k
theorem ds_frzM (i : Nat) (h : DS X wx st S) : DS X wx st (dFrzM i S) := by
  obtain ⟨t, p, r⟩ := h
  exact ⟨t, p, rf_frzM i r⟩
/-- a new list, put into the store -/
theorem DN.sto {T : DTA} (h : DN X wx e T) : DE X wx e (dLstM T) := by
  obtain ⟨t, p, r⟩ := h
  refine ⟨t, p, fun W0 W m σ ρ M Q Qd Ed R k h1 h2 h3 => r W0 W m σ ρ M Q _ Ed R k h1 (fun ds p vs W' m' M' q le k' hn hp hf hv => ?_) h3⟩
  have mp : m' p = none := k'.dj p (by rw [hp]; exact fun z => by cases z)
  have exH : Ex W'.F (fun b => if b = p then none else W'.H b) := fun b o z => by
    dsimp only
    rw [if_neg (fun y => by subst y; rw [hf] at z; cases z)]
    exact W'.ok b o z
  have le3 : W.le ⟨W'.F, fun b => if b = p then none else W'.H b, exH⟩ := ⟨le.f, fun b o z => by
    dsimp only
    rw [if_neg (fun y => by subst y; rw [hn] at z; cases z)]
    exact le.h b o z, le.n⟩
  have k3 : MOk (bx X) ⟨W'.F, fun b => if b = p then none else W'.H b, exH⟩ M' m' := ⟨fun b hb => k'.dj b (fun z => hb (by
    dsimp only
    split
    · rfl
    · exact z)), k'.ok⟩
  have k4 := k3.put (a := p) (ob := .lst ds) (o := .lst vs) (if_pos rfl) ⟨vs, rfl, hv⟩
  have e1 : cat (fun b => if b = p then none else W'.H b) (upd m' p (.lst vs)) = cat W'.H m' := by
    funext b
    by_cases z : b = p
    · subst z
      rw [cat_none (if_pos rfl), upd_same, cat_some hp]
    · unfold cat
      dsimp only
      rw [if_neg z, upd_ne z]
  have := h2 (.ref p) (.ref p) _ _ _ (q p (k'.nn mp)) le3 k4 (.ref p)
  rw [← e1]
  exact this
/-! ### {} -/
def dDnew (t : Bool) : DTE := fun _ M Q _ => ∀ a, M a = none → Q (.ref a) (updM M a (.dic t []))
def tDNewX (B : Bx) (t : Bool) : TE := fun _ H Q => ∀ p o, H p = none → DicO B (fun _ => none) p t [] (some o) → Q (.ref p) (upd H p o)
theorem pe_dnewX {t : Bool} : PE X (.Dict [] [] pos) (tDNewX (bx X) t) := ⟨fun pins s σ H Q I h => by
  have hb : (s.heap.objs.size == sysModules) = false := beq_eq_false_iff_ne.mpr (Ne.symm (Nat.ne_of_lt I.big))
  have hq : (s.heap.push { cls := .type "dict", data := .dict #[] }).get? s.heap.objs.size = some { cls := .type "dict", data := .dict #[] } := Heap.get?_push_size _ rfl
  cases t with
  | false =>
    refine wpAny_Dict_empty ⟨.ref s.heap.objs.size, _, I.laid (a := s.heap.objs.size) (o := .ext (DkAt (bx X) s.heap.objs.size { cls := .type "dict", data := .dict #[] } [])) (t' := s.toks) (fun _ _ q => Heap.get?_push_of_some _ q) (Nat.le_refl _) (dk_ok hq (Nat.zero_le _) hb .nil (Heap.DictOf.new s.heap)), rfl, h _ _ (I.hok.fresh (Nat.le_refl _)) (.inl ⟨rfl, [], _, rfl, .nil⟩)⟩
  | true =>
    refine wpAny_Dict_empty ⟨.ref s.heap.objs.size, _, I.laid (a := s.heap.objs.size) (o := .ext (RawD (bx X) s.heap.objs.size { cls := .type "dict", data := .dict #[] } [])) (t' := s.toks) (fun _ _ q => Heap.get?_push_of_some _ q) (Nat.le_refl _) (raw_ok (Nat.zero_le _) hb hq (Heap.DictOfH.new s.heap)), rfl, h _ _ (I.hok.fresh (Nat.le_refl _)) (.inr ⟨rfl, [], _, rfl, .nil⟩)⟩⟩
theorem DicO.none_mono {B : Bx} {F : Hp} {a : Addr} {t : Bool} {ks : List (D × D)} {o : Option HO} (h : DicO B (fun _ => none) a t ks o) : DicO B F a t ks o := h.mono fun _ _ z => by cases z
theorem de_dnew (t : Bool) : DE X wx (.Dict [] [] pos) (dDnew t) := by
  refine ⟨_, pe_dnewX (t := t), fun W0 W m σ ρ M Q Qd Ed R k h1 h2 h3 => fun p o hp ho => ?_⟩
  obtain ⟨hp1, hp2⟩ := cat_new hp
  exact cat_qm (P := Q (.ref p)) hp1 (h2 _ (.ref p) W _ _ (h1 p (k.nn hp2)) (Wd.le.refl W) (k.put (ob := .dic t []) hp1 ho.none_mono) (.ref p))
/-! ### d[k] = v -/
def onDic (M : Mu) (d : D) (K : Addr → Bool → List (D × D) → Prop) : Prop := match d with
  | .ref a => (match M a with | some (.dic t ks) => K a t ks | _ => False)
  | _ => False
theorem onDic_of {M : Mu} {d : D} {K : Addr → Bool → List (D × D) → Prop} (h : onDic M d K) : ∃ a t ks, d = .ref a ∧ M a = some (.dic t ks) ∧ K a t ks := by
  unfold onDic at h
  split at h
  · split at h
    · rename_i z; exact ⟨_, _, _, rfl, z, h⟩
    · exact h.elim
  · exact h.elim
def dDput (To Tk Tv : DTE) : DTS := fun DD ρ M => Tv ρ M (fun v M1 => To ρ M1 (fun x M2 => Tk ρ M2 (fun k M3 => onDic M3 x fun a t ks => kOkB t k = true ∧ ks.length < sizeLine ∧ DD.nx ρ (updM M3 a (.dic t (putG ks k v)))) fun C => DD.ex C ρ) fun C => DD.ex C ρ) fun C => DD.ex C ρ
def sDPutX (B : Bx) (td ty tv : TE) : TS := fun D σ H => tv σ H fun v H1 => td σ H1 fun x H2 => ty σ H2 fun y H3 => ∃ F a t ks k d, x = .ref a ∧ Ex F H3 ∧ DicO B F a t ks (H3 a) ∧ Rp B F y k ∧ kOkB t k = true ∧ ks.length < sizeLine ∧ Rp B F v d ∧ ∀ o', DicO B F a t (putG ks k d) (some o') → D.nx σ (upd H3 a o')
theorem ps_dputX {value i : Expr} {td ty tv : TE} {j : Nat} (hr : Room j X.A) (ho : PE X o td) (hi : PE X i ty) (hv : PE X value tv) (hs : swapsWith value (some (.Subscript o i pos')) pos.line X.env = pure false) :
    PS X (.Assign [.Subscript o i pos'] value pos) (sDPutX (bx X) td ty tv) := by
  refine ⟨fun pins s σ H D I h => ?_⟩
  refine wpAny_Assign_Subscript (thn (hv.run pins s σ H _ I h) fun r s1 ⟨v, H1, I1, rv, q1⟩ => thn (ho.run pins s1 σ H1 _ I1 q1) fun u s2 ⟨x, H2, I2, rx, q2⟩ => thn (hi.run pins s2 σ H2 _ I2 q2) fun iv s3 ⟨y, H3, I3, ry, F, a, t, ks, k, d, exx, ex, hd, hk, ko, hl, hv, q3⟩ => ?_) hs
  subst exx
  obtain rfl : u = Value.ref a := rx
  exact dx_set hr I3 ex hd hk ko hl ry hv rv fun o' s4 hd' I4 => ⟨σ, _, I4, q3 o' hd'⟩
theorem ds_dput {value i : Expr} {Tv : DTE} {j : Nat} (hr : Room j X.A) (ho : DE X wx o To) (hi : DE X wx i Tk) (hv : DE X wx value Tv) (hs : swapsWith value (some (.Subscript o i pos')) pos.line X.env = pure false := by rfl) :
    DS X wx (.Assign [.Subscript o i pos'] value pos) (dDput To Tk Tv) := by
  obtain ⟨to, po, ro⟩ := ho
  obtain ⟨ti, pi, ri⟩ := hi
  obtain ⟨tv, pv, rv⟩ := hv
  refine ⟨_, ps_dputX hr po pi pv hs, fun W0 W m σ ρ M D DD R mk h k => rv W0 W m σ ρ M _ _ _ R mk h (fun dv v W1 m1 M1 q le mk1 hv => ?_) fun C W' m' M' q le mk' => k.ex C W' m' σ ρ M' (R.mono le) mk' q⟩
  refine ro W0 W1 m1 σ ρ M1 _ _ _ (R.mono le) mk1 q (fun dx x W2 m2 M2 q2 le2 mk2 hx => ?_) fun C W' m' M' q le' mk' => k.ex C W' m' σ ρ M' (R.mono (le.trans le')) mk' q
  refine ri W0 W2 m2 σ ρ M2 _ _ _ (R.mono (le.trans le2)) mk2 q2 (fun dk y W3 m3 M3 q3 le3 mk3 hy => ?_) fun C W' m' M' q le' mk' => k.ex C W' m' σ ρ M' (R.mono ((le.trans le2).trans le')) mk' q
  obtain ⟨a, t, ks, rfl, z, ko, hl, q4⟩ := onDic_of q3
  cases hx
  have hn := mk3.hn z
  have ob := mk3.ok a
  rw [z] at ob
  refine ⟨W3.F, a, t, ks, dk, dv, rfl, W3.ok.trans (cat_ex W3.H m3), ?_, hy, ko, hl, hv.mono (le2.f.trans le3.f), fun o' hd' => ?_⟩
  · rw [cat_none hn]; exact ob
  · exact cat_qm (P := D.nx σ) hn (k.nx W3 _ σ ρ _ (R.mono ((le.trans le2).trans le3)) (mk3.put (ob := .dic t (putG ks dk dv)) hn hd') q4)
/-! ### d.get(k, x), d.setdefault(k, x) -/
def onDicR (M : Mu) (d : D) (K : Bool → List (D × D) → Prop) : Prop := match drf M d with | .dic t ks => K t ks | _ => False
theorem onDicR_of {M : Mu} {d : D} {K : Bool → List (D × D) → Prop} (h : onDicR M d K) : ∃ t ks, drf M d = .dic t ks ∧ K t ks := by
  unfold onDicR at h
  split at h
  · rename_i z; exact ⟨_, _, z, h⟩
  · exact h.elim
def dDget (To Tk Tx : DTE) : DTE := fun ρ M Q E => To ρ M (fun x M1 => onDicR M1 x fun _ _ => Tk ρ M1 (fun k M2 => Tx ρ M2 (fun d M3 => onDicR M3 x fun t ks => kOkB t k = true ∧ Q ((getK ks k).getD d) M3) E) E) E
def setdK (ks : List (D × D)) (k : D) (P : D → Prop) (N : Prop) : Prop := match getK ks k with | some d => P d | none => N
def dDsetd (To Tk Tx : DTE) : DTE := fun ρ M Q E => To ρ M (fun x M1 => onDicR M1 x fun _ _ => Tk ρ M1 (fun k M2 => Tx ρ M2 (fun d M3 => onDic M3 x fun a t ks => kOkB t k = true ∧ ks.length < sizeLine ∧ setdK ks k (fun d' => Q d' M3) (Q d (updM M3 a (.dic t (putG ks k d))))) E) E) E
/-- the thing is a dict now and then -/
def IsDX (B : Bx) (H : Hp) (a : Addr) : Prop := ∃ F t ks, Ex F H ∧ DicO B F a t ks (H a)
def tDGetX (B : Bx) (td ty tx : TE) : TE := fun σ H Q => td σ H fun x H1 => ∃ a, x = .ref a ∧ IsDX B H1 a ∧ ty σ H1 fun y H2 => tx σ H2 fun z H3 => ∃ F t ks k d, Ex F H3 ∧ DicO B F a t ks (H3 a) ∧ Rp B F y k ∧ kOkB t k = true ∧ Rp B F z d ∧ ∀ v, Rp B F v ((getK ks k).getD d) → Q v H3
def tDSetX (B : Bx) (td ty tx : TE) : TE := fun σ H Q => td σ H fun x H1 => ∃ a, x = .ref a ∧ IsDX B H1 a ∧ ty σ H1 fun y H2 => tx σ H2 fun z H3 => ∃ F t ks k d, Ex F H3 ∧ DicO B F a t ks (H3 a) ∧ Rp B F y k ∧ kOkB t k = true ∧ ks.length < sizeLine ∧ Rp B F z d ∧
  (∀ d' v, getK ks k = some d' → Rp B F v d' → Q v H3) ∧ (getK ks k = none → ∀ o', DicO B F a t (putG ks k d) (some o') → Q z (upd H3 a o'))
theorem pe_dgetX {td ty tx : TE} {cpos : Pos} {j : Nat} (hr : Room j X.A) (ho : PE X o td) (he : PE X e ty) (hf : PE X f tx) (m : M2 X o "get" apos e f cpos) : PE X (.Call (.Attribute o "get" apos) [e, f] [] cpos) (tDGetX (bx X) td ty tx) := by
  refine ⟨fun pins s σ H Q I h => ?_⟩
  refine wpAny_Call_method m.base m.few m.line PySem.F.plainAttrs_dict PySem.F.slot_dict_get PySem.F.type_dict_get (thn (ho.run pins s σ H _ I h) fun u s1 ⟨x, H1, I1, rx, a, ex, d, q1⟩ => ?_)
  subst ex
  obtain rfl : u = Value.ref a := rx
  obtain ⟨F, t, ks, ex, hd⟩ := d
  refine ⟨dx_type I1 ex hd, dx_bare I1 ex hd, ?_⟩
  rw [m.trees]
  refine Calls.callWith_builtin rfl (Calls.evalArgs_plain (Calls.spliced_cons (thn (he.run pins s1 σ H1 _ I1 q1) fun iv s2 ⟨y, H2, I2, ry, q2⟩ =>
    Calls.spliced_cons (thn (hf.run pins s2 σ H2 _ I2 q2) fun fv s3 ⟨z, H3, I3, rz, F, t, ks, k, d, ex, hd, hk, ko, hz, q3⟩ => Calls.spliced_nil ?_))))
  exact dx_get2 hr I3 ex hd hk ko ry hz rz fun v w' s4 I4 rw' rv => ⟨v, H3, I4, rw', q3 v rv⟩
theorem pe_dsetX {td ty tx : TE} {cpos : Pos} {j : Nat} (hr : Room j X.A) (ho : PE X o td) (he : PE X e ty) (hf : PE X f tx) (m : M2 X o "setdefault" apos e f cpos) : PE X (.Call (.Attribute o "setdefault" apos) [e, f] [] cpos) (tDSetX (bx X) td ty tx) := by
  refine ⟨fun pins s σ H Q I h => ?_⟩
  refine wpAny_Call_method m.base m.few m.line PySem.F.plainAttrs_dict PySem.F.slot_dict_setdefault PySem.F.type_dict_setdefault (thn (ho.run pins s σ H _ I h) fun u s1 ⟨x, H1, I1, rx, a, ex, d, q1⟩ => ?_)
  subst ex
  obtain rfl : u = Value.ref a := rx
  obtain ⟨F, t, ks, ex, hd⟩ := d
  refine ⟨dx_type I1 ex hd, dx_bare I1 ex hd, ?_⟩
  rw [m.trees]
  refine Calls.callWith_builtin rfl (Calls.evalArgs_plain (Calls.spliced_cons (thn (he.run pins s1 σ H1 _ I1 q1) fun iv s2 ⟨y, H2, I2, ry, q2⟩ =>
    Calls.spliced_cons (thn (hf.run pins s2 σ H2 _ I2 q2) fun fv s3 ⟨z, H3, I3, rz, F, t, ks, k, d, ex, hd, hk, ko, hl, hz, q3, q4⟩ => Calls.spliced_nil ?_))))
  exact dx_setd hr I3 ex hd hk ko hl ry hz rz (fun d' v w' s4 hg I4 rw' rv => ⟨v, H3, I4, rw', q3 d' v hg rv⟩) fun o' s4 hg hd' I4 => ⟨z, _, I4, rz, q4 hg o' hd'⟩
theorem isDX_of {B : Bx} {W : Wd} {m : Hp} {M : Mu} {v : V} {t : Bool} {ks : List (D × D)} {x : D} (k : MOk B W M m) (h : RpR B W.F W.H v x) (z : drf M x = .dic t ks) : ∃ a, v = .ref a ∧ DicO B W.F a t ks (cat W.H m a) := by
  have h' := h.drf k
  rw [z] at h'
  exact h'
theorem de_dget {cpos : Pos} {j : Nat} (hr : Room j X.A) (ho : DR X wx o To) (he : DE X wx e Tk) (hf : DE X wx f Tx) (m : M2 X o "get" apos e f cpos := by exact ⟨rfl, rfl, rfl, rfl⟩) : DE X wx (.Call (.Attribute o "get" apos) [e, f] [] cpos) (dDget To Tk Tx) := by
  obtain ⟨to, po, ro⟩ := ho
  obtain ⟨ti, pi, ri⟩ := he
  obtain ⟨tx, px, rx⟩ := hf
  refine ⟨_, pe_dgetX hr po pi px m, fun W0 W mm σ ρ M Q Qd Ed R mk h1 h2 h3 => ro W0 W mm σ ρ M _ _ Ed R mk h1 (fun dx x W1 m1 M1 q le mk1 hx => ?_) h3⟩
  obtain ⟨t1, ks1, z1, q⟩ := onDicR_of q
  obtain ⟨a, rfl, hd1⟩ := isDX_of mk1 hx z1
  refine ⟨a, rfl, ⟨W1.F, t1, ks1, W1.ok.trans (cat_ex W1.H m1), hd1⟩, ri W0 W1 m1 σ ρ M1 _ _ Ed (R.mono le) mk1 q (fun dk y W2 m2 M2 q2 le2 mk2 hy => ?_) (h3.up le)⟩
  refine rx W0 W2 m2 σ ρ M2 _ _ Ed (R.mono (le.trans le2)) mk2 q2 (fun dd z W3 m3 M3 q3 le3 mk3 hz => ?_) (h3.up (le.trans le2))
  obtain ⟨t, ks, z3, ko, q4⟩ := onDicR_of q3
  obtain ⟨a', e, hd3⟩ := isDX_of mk3 ((hx.le le2).le le3) z3
  cases e
  exact ⟨W3.F, t, ks, dk, dd, W3.ok.trans (cat_ex W3.H m3), hd3, hy.mono le3.f, ko, hz, fun v rv => h2 _ v W3 m3 M3 q4 ((le.trans le2).trans le3) mk3 rv⟩
theorem de_dsetd {cpos : Pos} {j : Nat} (hr : Room j X.A) (ho : DR X wx o To) (he : DE X wx e Tk) (hf : DE X wx f Tx) (m : M2 X o "setdefault" apos e f cpos := by exact ⟨rfl, rfl, rfl, rfl⟩) : DE X wx (.Call (.Attribute o "setdefault" apos) [e, f] [] cpos) (dDsetd To Tk Tx) := by
  obtain ⟨to, po, ro⟩ := ho
  obtain ⟨ti, pi, ri⟩ := he
  obtain ⟨tx, px, rx⟩ := hf
  refine ⟨_, pe_dsetX hr po pi px m, fun W0 W mm σ ρ M Q Qd Ed R mk h1 h2 h3 => ro W0 W mm σ ρ M _ _ Ed R mk h1 (fun dx x W1 m1 M1 q le mk1 hx => ?_) h3⟩
  obtain ⟨t1, ks1, z1, q⟩ := onDicR_of q
  obtain ⟨a, rfl, hd1⟩ := isDX_of mk1 hx z1
  refine ⟨a, rfl, ⟨W1.F, t1, ks1, W1.ok.trans (cat_ex W1.H m1), hd1⟩, ri W0 W1 m1 σ ρ M1 _ _ Ed (R.mono le) mk1 q (fun dk y W2 m2 M2 q2 le2 mk2 hy => ?_) (h3.up le)⟩
  refine rx W0 W2 m2 σ ρ M2 _ _ Ed (R.mono (le.trans le2)) mk2 q2 (fun dd z W3 m3 M3 q3 le3 mk3 hz => ?_) (h3.up (le.trans le2))
  obtain ⟨a', t, ks, rfl, z3, ko, hl, q4⟩ := onDic_of q3
  have ea : a = a' := by cases hx; rfl
  subst ea
  have hn := mk3.hn z3
  have ob := mk3.ok a
  rw [z3] at ob
  have lle := (le.trans le2).trans le3
  unfold setdK at q4
  refine ⟨W3.F, t, ks, dk, dd, W3.ok.trans (cat_ex W3.H m3), by rw [cat_none hn]; exact ob, hy.mono le3.f, ko, hl, hz, fun d' v hg rv => ?_, fun hg o' hd' => ?_⟩
  · rw [hg] at q4
    exact h2 _ v W3 m3 M3 q4 lle mk3 rv
  · rw [hg] at q4
    exact cat_qm (P := Q z) hn (h2 _ z W3 _ _ q4 lle (mk3.put (ob := .dic t (putG ks dk dd)) hn hd') hz)
/-! ### o.m(..), o a list of the store -/
def onLst (M : Mu) (d : D) (K : Addr → List D → Prop) : Prop := match d with
  | .ref a => (match M a with | some (.lst ds) => K a ds | _ => False)
  | _ => False
def dLmX (o : LM) (To : DTE) (R : DTA) : DTE := fun ρ M Q E => To ρ M (fun x M1 => onLst M1 x fun _ _ => R ρ M1 (fun as M2 => onLst M2 x fun a ds => o M2 ds as fun d ds' => Q d (updM M2 a (.lst ds'))) E) E
variable {ms : List Bool} {r : V → List V → Hp → VK → Prop} {lm : LM} {ce : Expr} {R : DTA}
/-! ### a or b, whatever a is -/
def dOrG (t u : DTE) : DTE := fun ρ M Q E => t ρ M (fun x M' => truD (drf M' x) fun c => if c = true then Q x M' else u ρ M' Q E) E
theorem truV_of {B : Bx} {W : Wd} {m : Hp} {M : Mu} {v : V} {d : D} {Q : Bool → Prop} (k : MOk B W M m) (hv : RpR B W.F W.H v d) (q : truD (drf M d) Q) : ∃ c, TruV B.K v (cat W.H m) c ∧ Q c := by
  have hv := hv.drf k
  have ok := W.ok.trans (cat_ex W.H m)
  rcases truD_of q with ⟨e, q⟩ | ⟨b, e, q⟩ | ⟨i, e, q⟩ | ⟨y, e, hz, q⟩ | ⟨xs, e, q⟩ | ⟨xs, e, q⟩ <;> rw [e] at hv
  · cases hv; exact ⟨_, rfl, q⟩
  · cases hv; exact ⟨_, rfl, q⟩
  · cases hv; exact ⟨_, rfl, q⟩
  · cases hv; exact ⟨_, ⟨hz, rfl⟩, q⟩
  · obtain ⟨a, vs, rfl, h4, h5⟩ := hv; exact ⟨_, .inl ⟨vs, h4, rfl⟩, by rw [isE_of h5]; exact q⟩
  · cases hv with
    | tup h4 h5 => exact ⟨_, .inr (.inl ⟨_, Evl.ex_t ok h4, rfl⟩), by rw [isE_of h5]; exact q⟩
theorem de_orG {rst : List Expr} (ha : DE X wx a Ta) (hb : DE X wx (.BoolOp .Or (b :: rst) pos) Tb) : DE X wx (.BoolOp .Or (a :: b :: rst) pos) (dOrG Ta Tb) := by
  obtain ⟨t, p, r⟩ := ha
  obtain ⟨t', p', r'⟩ := hb
  refine ⟨_, pe_orT p p', fun W0 W m σ ρ M Q Qd Ed R k h1 h2 h3 => r W0 W m σ ρ M _ _ Ed R k h1 (fun d v W' m' M' q le k' hv => ?_) h3⟩
  obtain ⟨c, tv, q⟩ := truV_of (B := bx X) k' hv.rd q
  refine ⟨c, tv, ?_⟩
  cases c with
  | false => exact r' W0 W' m' σ ρ M' _ _ Ed (R.mono le) k' q (fun c' v' W'' m'' M'' q2 le2 => h2 c' v' W'' m'' M'' q2 (le.trans le2)) (h3.up le)
  | true => exact h2 d v W' m' M' q le k' hv
/-! ### names that were lent -/
/-- as a value: a list is told by where it stands alone -/
def dVarP (i : Nat) : DTE := fun ρ M Q _ => match ga ρ i with
  | .dat d => Q d M
  | .bor (.lst _) => ∀ a, Q (.ref a) M
  | .bor .non => Q .non M
  | .bor (.tup ds) => Q (.tup ds) M
  | _ => False
theorem de_varP (i : Nat) {x : Str} (hN : X.N[i]? = some x := by rfl) (hv : Vis X.env.scope x := by first | exact Or.inl rfl | exact Or.inr (Or.inl rfl) | exact Or.inr (Or.inr rfl)) (hd : (x == ("__debug__" : Str)) = false := by decide)
    (hcd : (x == ("__classdict__" : Str)) = false := by decide) : DE X wx (.Name x pos) (dVarP i) := by
  refine ⟨_, pe_var hN hv hd hcd, fun W0 W m σ ρ M Q Qd Ed R k h1 h2 h3 => ?_⟩
  unfold dVarP at h1
  obtain ⟨le, _, ad, _, h4⟩ := id R
  have q := h4 i
  split at h1
  · rename_i d z
    obtain ⟨v, e, r⟩ := R.dat z
    exact ⟨v, e, h2 d v W m M h1 (Wd.le.refl W) k r⟩
  · rename_i ds z
    rw [z] at q
    obtain ⟨v, q1, q2⟩ := q
    have : ∃ b, v = .ref b := by
      rcases q2 with ⟨b, vs, e1, e2, e3⟩ | q2
      · exact ⟨b, e1⟩
      · cases q2 with
        | lst e2 e3 => exact ⟨_, rfl⟩
    obtain ⟨b, rfl⟩ := this
    exact ⟨_, q1, h2 _ _ W m M (h1 b) (Wd.le.refl W) k (.ref b)⟩
  · rename_i z
    rw [z] at q
    obtain ⟨v, q1, q2⟩ := q
    have q2 : Rp (bx X) W.F v .non := q2.elim (fun z => z) id
    exact ⟨_, q1, h2 _ _ W m M h1 (Wd.le.refl W) k q2⟩
  · rename_i ds z
    rw [z] at q
    obtain ⟨v, q1, q2⟩ := q
    have q2 : Rp (bx X) W.F v (.tup ds) := q2.elim (fun z => z) id
    exact ⟨_, q1, h2 _ _ W m M h1 (Wd.le.refl W) k q2⟩
  · exact h1.elim
/-- over a list or a tuple that was lent -/
def dItC (i : Nat) : DTA := fun ρ M Q _ => match ga ρ i with | .bor (.lst ds) => Q ds M | .dat (.lst ds) => Q ds M | .bor (.tup ds) => Q ds M | .dat (.tup ds) => Q ds M | _ => False
theorem di_borC {tg : Expr} (i : Nat) {x : Str} (hN : X.N[i]? = some x := by rfl) (hv : Vis X.env.scope x := by first | exact Or.inl rfl | exact Or.inr (Or.inl rfl) | exact Or.inr (Or.inr rfl)) (hd : (x == ("__debug__" : Str)) = false := by decide)
    (hcd : (x == ("__classdict__" : Str)) = false := by decide) : DI X wx tg (.Name x pos) (dItC i) := by
  refine ⟨_, pi_any (pe_var hN hv hd hcd), fun W0 W m σ ρ M Q Qd Ed R mk h1 h2 h3 => ?_⟩
  unfold dItC at h1
  obtain ⟨le, _, ad, _, h4⟩ := id R
  have q := h4 i
  have tups : ∀ v ds, Rp (bx X) W.F v (.tup ds) → Qd ds M → σ[i]? = some (some v) → iAny (bx X) (tVar i) σ (cat W.H m) Q := fun v ds hv h1 e => by
    cases hv with
    | tup h4 h5 => exact ⟨_, e, .inr (.inl ⟨_, rfl, ⟨_, Evl.ex_t (W.ok.trans (cat_ex W.H m)) h4⟩, h2 ds _ W m M h1 (Wd.le.refl W) mk (itt_ok (B := bx X) (fun W'' _ ex => Evl.ex_t W''.ok (Evl.ex_t ex h4)) h5)⟩)⟩
  split at h1
  · rename_i ds z
    rw [z] at q
    obtain ⟨v, q1, q2⟩ := q
    have : ∃ b vs, v = .ref b ∧ (SqL X.K W0.H b vs ∨ SqL X.K W.F b vs) ∧ RpAll (bx X) W.F vs ds := by
      rcases q2 with ⟨b, vs, e1, e2, e3⟩ | q2
      · exact ⟨b, vs, e1, .inl e2, e3⟩
      · cases q2 with
        | lst e2 e3 => exact ⟨_, _, rfl, .inr e2, e3⟩
    obtain ⟨b, vs, rfl, q2, q3⟩ := this
    have hs : ∀ W', W0.le W' → Ex W.F W'.F → SqL X.K W'.H b vs := fun W' l ex => q2.elim (Evl.ex_l l.h) fun z => Evl.ex_l W'.ok (Evl.ex_l ex z)
    exact ⟨_, q1, .inl ⟨_, rfl, ⟨_, Evl.ex_l (cat_ex W.H m) (hs W le (Ex.refl _))⟩, h2 _ _ W m M h1 (Wd.le.refl W) mk (itl_ok (B := bx X) hs q3)⟩⟩
  · rename_i ds z
    rw [z] at q
    obtain ⟨v, q1, q2⟩ := q
    cases q2 with
    | lst h4 h5 => exact ⟨_, q1, .inl ⟨_, rfl, ⟨_, Evl.ex_l (W.ok.trans (cat_ex W.H m)) h4⟩, h2 _ _ W m M h1 (Wd.le.refl W) mk (itl_ok (B := bx X) (fun W'' _ ex => Evl.ex_l W''.ok (Evl.ex_l ex h4)) h5)⟩⟩
  · rename_i ds z
    rw [z] at q
    obtain ⟨v, q1, q2⟩ := q
    exact tups v ds (q2.elim (fun z => z) id) h1 q1
  · rename_i ds z
    rw [z] at q
    obtain ⟨v, q1, q2⟩ := q
    exact tups v ds q2 h1 q1
  · exact h1.elim
end
/-! ### a dict of the store and the things that its values point to are frozen -/
def refsOf : List (D × D) → List Addr
  | [] => []
  | (_, .ref a) :: r => a :: refsOf r
  | _ :: r => refsOf r
theorem refs_mem : ∀ {ks : List (D × D)} {p : D × D} {a : Addr}, p ∈ ks → p.2 = .ref a → a ∈ refsOf ks
  | (k, d) :: r, p, a, h, e => by
    rcases List.mem_cons.mp h with rfl | h
    · dsimp only at e
      subst e
      exact List.mem_cons_self
    · have := refs_mem h e
      unfold refsOf
      split
      · rename_i z; cases z
      · rename_i z; cases z; exact List.mem_cons_of_mem _ this
      · rename_i z; cases z; exact this
def lessM (M : Mu) (bs : List Addr) : Mu := fun b => if b ∈ bs then none else M b
theorem obD_drf (b : Addr) (ob : Ob) : obD ob = drfO b (some ob) := by cases ob <;> rfl
theorem MOk.freezeL {B : Bx} {M : Mu} : ∀ (bs : List Addr) {W : Wd} {m : Hp}, MOk B W M m → ∃ W' m', cat W'.H m' = cat W.H m ∧ W.le W' ∧ MOk B W' (lessM M bs) m' ∧ ∀ b ∈ bs, ∀ ob, M b = some ob → Rp B W'.F (.ref b) (obD ob)
  | [], W, m, h => ⟨W, m, rfl, Wd.le.refl W, by
      have e : lessM M [] = M := by funext b; simp [lessM]
      rw [e]; exact h, fun b hb => by simp at hb⟩
  | b :: r, W, m, h => by
    obtain ⟨W1, m1, e1, le1, k1, p1⟩ := MOk.freezeL r h
    by_cases hb : b ∈ r
    · have e : lessM M (b :: r) = lessM M r := by
        funext x
        unfold lessM
        by_cases z : x = b
        · subst z; simp [hb]
        · simp [z]
      rw [e]
      refine ⟨W1, m1, e1, le1, k1, fun x hx ob eo => ?_⟩
      rcases List.mem_cons.mp hx with rfl | hx
      · exact p1 _ hb ob eo
      · exact p1 x hx ob eo
    · cases y : M b with
      | none =>
        have e : lessM M (b :: r) = lessM M r := by
          funext x
          unfold lessM
          by_cases z : x = b
          · subst z; simp [y]
          · simp [z]
        rw [e]
        refine ⟨W1, m1, e1, le1, k1, fun x hx ob eo => ?_⟩
        rcases List.mem_cons.mp hx with rfl | hx
        · rw [y] at eo; cases eo
        · exact p1 x hx ob eo
      | some ob =>
        have y1 : lessM M r b = some ob := by unfold lessM; rw [if_neg hb]; exact y
        obtain ⟨W2, m2, e2, le2, k2, rp⟩ := k1.freezeA y1
        have e : lessM M (b :: r) = delM (lessM M r) b := by
          funext x
          unfold lessM delM
          by_cases z : x = b
          · subst z; simp
          · simp [z]
        rw [e]
        refine ⟨W2, m2, e2.trans e1, le1.trans le2, k2, fun x hx ob' eo => ?_⟩
        rcases List.mem_cons.mp hx with rfl | hx
        · rw [y] at eo; cases eo; exact rp
        · exact (p1 x hx ob' eo).mono le2.f
theorem thaw_rp {B : Bx} {F F' : Hp} {M : Mu} {bs : List Addr} (ex : Ex F F') (h : ∀ b ∈ bs, ∀ ob, M b = some ob → Rp B F' (.ref b) (obD ob)) {v : V} {d : D} (r : Rp B F v d) (hb : ∀ a, d = .ref a → a ∈ bs) : Rp B F' v (drf M d) := by
  cases d with
  | ref a =>
    cases r
    show Rp B F' (.ref a) (drfO a (M a))
    cases z : M a with
    | none => exact .ref a
    | some ob => rw [← obD_drf]; exact h a (hb a rfl) ob z
  | _ => exact r.mono ex
theorem thaw_k {B : Bx} {F F' : Hp} {M : Mu} {bs : List Addr} (ex : Ex F F') (h : ∀ b ∈ bs, ∀ ob, M b = some ob → Rp B F' (.ref b) (obD ob)) : ∀ {kv : List (Key × V)} {ks : List (D × D)}, RpK B F kv ks → (∀ p ∈ ks, ∀ a, p.2 = .ref a → a ∈ bs) → RpK B F' kv (ks.map fun p => (p.1, drf M p.2))
  | _, _, .nil, _ => .nil
  | _, _, .cons r t, hb => .cons (thaw_rp ex h r fun a e => hb _ List.mem_cons_self a e) (thaw_k ex h t fun p hp => hb p (List.mem_cons_of_mem _ hp))
theorem thaw_x {B : Bx} {F F' : Hp} {M : Mu} {bs : List Addr} (ex : Ex F F') (h : ∀ b ∈ bs, ∀ ob, M b = some ob → Rp B F' (.ref b) (obD ob)) : ∀ {kv : List (NestedKey × Addr × Value)} {ks : List (D × D)}, RpX B F kv ks → (∀ p ∈ ks, ∀ a, p.2 = .ref a → a ∈ bs) → RpX B F' kv (ks.map fun p => (p.1, drf M p.2))
  | _, _, .nil, _ => .nil
  | _, _, .cons hc hn h8 hr r t, hb => .cons (hc.mono ex) hn h8 hr (thaw_rp ex h r fun a e => hb _ List.mem_cons_self a e) (thaw_x ex h t fun p hp => hb p (List.mem_cons_of_mem _ hp))
section
variable {X : Cx} {wx : WX} {st : Stmt} {S : DTS}
def dFrzD (i : Nat) (S : DTS) : DTS := fun DD ρ M => match ga ρ i with
  | .dat (.ref a) => (match M a with | some (.dic t ks) => a ∉ refsOf ks ∧ S DD (ρ.set i (.dat (.dic t (ks.map fun p => (p.1, drf M p.2))))) (lessM M (a :: refsOf ks)) | _ => False)
  | _ => False
theorem rf_frzD {B : Bx} {t : TS} (i : Nat) (r : RfS B wx t S) : RfS B wx t (dFrzD i S) := fun W0 W m σ ρ M D DD R mk h k => by
  unfold dFrzD at h
  split at h
  · rename_i a z
    split at h
    · rename_i tt ks y
      obtain ⟨ha, h⟩ := h
      obtain ⟨W1, m1, e1, le1, k1, p1⟩ := mk.freezeL (refsOf ks)
      have y1 : lessM M (refsOf ks) a = some (.dic tt ks) := by unfold lessM; rw [if_neg ha]; exact y
      have o1 := k1.ok a
      rw [y1] at o1
      obtain ⟨W2, m2, e2, le2, k2, rp⟩ := k1.freezeA (ob := .dic tt ks) y1
      have hb : ∀ p ∈ ks, ∀ b, p.2 = .ref b → b ∈ refsOf ks := fun p hp b e => refs_mem hp e
      have p2 : ∀ b ∈ refsOf ks, ∀ ob, M b = some ob → Rp B W2.F (.ref b) (obD ob) := fun b hb ob eo => (p1 b hb ob eo).mono le2.f
      have rp2 : Rp B W2.F (.ref a) (.dic tt (ks.map fun p => (p.1, drf M p.2))) := by
        cases rp with
        | dic h4 h5 => exact .dic h4 (thaw_k (Ex.refl _) p2 h5 hb)
        | dit h4 h5 => exact .dit h4 (thaw_x (Ex.refl _) p2 h5 hb)
      obtain ⟨v, e3, rv⟩ := R.dat z
      cases rv
      have R' := (R.mono (le1.trans le2)).set (i := i) rp2
      rw [set_same e3] at R'
      have e : lessM M (a :: refsOf ks) = delM (lessM M (refsOf ks)) a := by
        funext x
        unfold lessM delM
        by_cases z : x = a
        · subst z; simp
        · simp [z]
      rw [e] at h
      have q := r W0 W2 m2 σ _ _ D DD R' k2 h k
      rw [e2, e1] at q
      exact q
    · exact h.elim
  · exact h.elim
theorem ds_frzD (i : Nat) (h : DS X wx st S) : DS X wx st (dFrzD i S) := by
  obtain ⟨t, p, r⟩ := h
  exact ⟨t, p, rf_frzD i r⟩
end
/-! ### a def that leaves things behind in the store -/
def leM (M2 M : Mu) : Prop := ∀ b ob, M2 b = some ob → M b = some ob
theorem leM.refl (M : Mu) : leM M M := fun _ _ h => h
theorem leM.trans {M1 M2 M3 : Mu} (h : leM M1 M2) (h2 : leM M2 M3) : leM M1 M3 := fun b ob z => h2 b ob (h b ob z)
theorem leM.upd {M : Mu} {a : Addr} {o : Ob} (h : M a = none) : leM M (updM M a o) := fun b ob z => by
  rw [updM_ne (fun y => by subst y; rw [h] at z; cases z)]; exact z
def endsW (Q : D → Mu → Prop) (E : Str → Mu → Prop) : DEnds := ⟨fun _ M => ∃ M2, leM M2 M ∧ Q .non M2, fun d M => ∃ M2, leM M2 M ∧ Q d M2, fun _ _ => False, fun _ _ => False, fun C _ M => ∃ M2, leM M2 M ∧ E C M2⟩
theorem fnok_ofW {B : Bx} {base : Heap} {x qual : Str} {pm : Arguments} {bd : List Stmt} {sc : Scope} {dvs : List V} {kws : List (Str × V)} {f : Addr} {fd : FuncData} {N ps : List Str} {ms : List Bool} {sp : SpM} {T : DTS} {k : Nat} (F : FunD B.K x qual pm bd sc dvs kws f fd) (S : FnScope N ps sc)
    (body : ∀ (cdv : Value) (A : Around) (outer : List Env) (s : Shared) (H : Hp) (E : XK), Room k (cxF B base N qual sc f cdv A outer s H E).A → Takes (cxF B base N qual sc f cdv A outer s H E) (wxF E) →
      PassesOwn (model B.P B.w) (cxF B base N qual sc f cdv A outer s H E).A (cxF B base N qual sc f cdv A outer s H E).env (cxF B base N qual sc f cdv A outer s H E).xe →
      DSs (cxF B base N qual sc f cdv A outer s H E) (wxF E) bd T)
    (spec : ∀ ds M Q E, sp ds M Q E → T (endsW Q E) (startE ms N.length ds) M) (hl : ms.length = ps.length := by rfl) : FnB B base (k + 1) f fd ps ms sp := by
  refine F.ok S (fun vs H Q E h => ?_) (fun cdv A outer s H vs Q E hr h => ?_)
  · obtain ⟨W, m, M, ds, Qd, Ed, _, _, hA, _⟩ := h
    rw [ms_len hA, hl]
  · obtain ⟨W, m, M, ds, Qd, Ed, rfl, mk, hA, hsp, h1, h2⟩ := h
    obtain ⟨t, p, r⟩ := body cdv A outer s (cat W.H m) E hr (takes_of rfl rfl rfl rfl) (passes_of rfl)
    refine ⟨t, p, ?_⟩
    have hp : ps.length ≤ N.length := by
      have := congrArg List.length S.pre
      rw [List.length_take] at this
      omega
    refine r W W m _ _ M _ _ (rel_start hA (by rw [ms_len hA, hl]; exact hp)) mk (spec ds M Qd Ed hsp) ⟨fun W' m' σ ρ M' R mk' q => ?_, fun d v W' m' M' le mk' rv q => ?_, fun _ _ _ _ _ _ _ q => q.elim, fun _ _ _ _ _ _ _ q => q.elim, fun C W' m' σ ρ M' R mk' q => ?_⟩
    · obtain ⟨M2, l, q⟩ := q
      exact h1 .non .non W' m' M2 q R.le (mk'.weak l) .non
    · obtain ⟨M2, l, q⟩ := q
      exact h1 d v W' m' M2 q le (mk'.weak l) rv
    · obtain ⟨M2, l, q⟩ := q
      exact h2 C W' m' M2 q R.le (mk'.weak l)
end Z

/-! min(t), max(t), t a tuple of two ints. -/
namespace Z
open PySem PySem.Spec PyProof.Rows L2
section
variable {prog : Program} {w : World} {A : Around} {E : Value → Shared → Prop} {s : Shared} {l : Addr} {xs : Array (Int × Tok)}
end
section
variable {X : Cx}
end
def oMinT (ds : List D) (Q : D → Prop) : Prop := match ds with | [.tup [.int i, .int j]] => Q (.int (if j < i then j else i)) | _ => False
def oMaxT (ds : List D) (Q : D → Prop) : Prop := match ds with | [.tup [.int i, .int j]] => Q (.int (if j > i then j else i)) | _ => False
/-! ### xs.index(x), xs a list of texts -/
def isLD : D → Prop
  | .lst _ => True
  | _ => False
def oIdx (x : D) (as : List D) (Q : D → Prop) : Prop := match x, as with
  | .lst ys, [.str z] => ∃ (ss : List Str) (j : Nat), ys = ss.map .str ∧ ss[j]? = some z ∧ (∀ k : Nat, k < j → ss[k]? ≠ some z) ∧ Q (.int (j : Nat))
  | _, _ => False
theorem oIdx_of {x : D} {as : List D} {Q : D → Prop} (h : oIdx x as Q) : ∃ (ss : List Str) (z : Str) (j : Nat), x = .lst (ss.map .str) ∧ as = [.str z] ∧ ss[j]? = some z ∧ (∀ k : Nat, k < j → ss[k]? ≠ some z) ∧ Q (.int (j : Nat)) := by
  unfold oIdx at h
  split at h
  · obtain ⟨ss, j, rfl, h1, h2, h3⟩ := h
    exact ⟨ss, _, j, rfl, rfl, h1, h2, h3⟩
  · exact h.elim
def dLidx (To : DTE) (R : DTA) : DTE := fun ρ M Q E => To ρ M (fun x M1 => isLD (drf M1 x) ∧ R ρ M1 (fun as M2 => oIdx (drf M2 x) (as.map (drf M2)) fun d => Q d M2) E) E
section
variable {X : Cx} {wx : WX} {e o ce : Expr} {es : List Expr} {To : DTE} {R : DTA} {ms : List Bool}
theorem de_lidx (pb : ∀ {to t}, PE X o to → PA X (e :: es) t → PE X ce (tBM X.K "list" (rIndex X.K) to t)) (ho : DR X wx o To) (ha : DM X wx ms (e :: es) R) : DE X wx ce (dLidx To R) := by
  obtain ⟨to, po, ro⟩ := ho
  obtain ⟨t, pa, ra⟩ := ha
  refine ⟨_, pb po pa, fun W0 W m σ ρ M Q Qd Ed Re mk h1 h2 h3 => ro W0 W m σ ρ M _ _ Ed Re mk h1 (fun dx x W1 m1 M1 q le mk1 hx => ?_) h3⟩
  obtain ⟨q0, q⟩ := q
  have hx1 := hx.drf mk1
  cases z1 : drf M1 dx with
  | lst ys1 =>
    rw [z1] at hx1
    obtain ⟨a, vs1, rfl, s1, _⟩ := hx1
    refine ⟨.inl ⟨rfl, vs1, s1⟩, ra W0 W1 m1 σ ρ M1 _ _ Ed (Re.mono le) mk1 q (fun as us W2 m2 M2 q2 le2 mk2 hu => ?_) (h3.up le)⟩
    obtain ⟨ss, z, j, e1, e2, g1, g2, q3⟩ := oIdx_of q2
    have hx2 := (hx.le le2).drf mk2
    rw [e1] at hx2
    obtain ⟨a2, vs2, e3, s2, r2⟩ := hx2
    cases e3
    have ev := r2.strs
    subst ev
    have hu2 := hu.reads mk2
    rw [e2] at hu2
    cases hu2 with
    | cons r1 t1 =>
      cases t1
      cases r1
      refine ⟨a, _, .str z, j, .str z, rfl, rfl, s2, rfl, by rw [List.all_eq_true]; intro v hv; obtain ⟨y, _, rfl⟩ := List.mem_map.mp hv; rfl, by rw [List.getElem?_map, g1]; rfl, by show (z == z) = true; simp, fun k z' hk hz => ?_, h2 _ _ W2 m2 M2 q3 (le.trans le2) mk2 (.int _)⟩
      rw [List.getElem?_map] at hz
      obtain ⟨y, hy, rfl⟩ := Option.map_eq_some_iff.mp hz
      have : y ≠ z := fun w => g2 k hk (by rw [hy, w])
      show (y == z) = false
      simpa using this
  | _ => rw [z1] at q0; exact q0.elim
end
end Z

namespace Z
open PySem L2

/-! ### fractions -/
/-- a fraction as data -/
def fD (p : Rat) : D := .tup [.int p.num, .int (p.den : Int)]
theorem frac_parts {a b : Int} (hb : b ≠ 0) : ∃ m : Int, m ≠ 0 ∧ a = (Rat.divInt a b).num * m ∧ b = ((Rat.divInt a b).den : Int) * m ∧ (if b < 0 then -(Int.gcd a b : Int) else (Int.gcd a b : Int)) = m := by
  obtain ⟨m, m0, e1, e2⟩ := Rat.divInt_num_den (n := a) (d := b) (n' := (Rat.divInt a b).num) (d' := (Rat.divInt a b).den) (z' := (Rat.divInt a b).den_nz) (c := (Rat.divInt a b).reduced) hb rfl
  refine ⟨m, m0, e1, e2, ?_⟩
  have hg : Int.gcd a b = m.natAbs := by
    have h : Int.gcd a b = Int.gcd ((Rat.divInt a b).num * m) (((Rat.divInt a b).den : Int) * m) := by rw [← e1, ← e2]
    rw [h, Int.gcd_mul_right]
    have h1 : Int.gcd (Rat.divInt a b).num ((Rat.divInt a b).den : Int) = 1 := by
      have := (Rat.divInt a b).reduced
      simpa [Int.gcd, Nat.Coprime] using this
    rw [h1, Nat.one_mul]
  have hd : (0 : Int) < ((Rat.divInt a b).den : Int) := by
    have := (Rat.divInt a b).den_nz
    omega
  rw [hg]
  by_cases hn : b < 0
  · rw [if_pos hn]
    have hm : m < 0 := by
      rcases Int.lt_trichotomy m 0 with h | h | h
      · exact h
      · exact absurd h m0
      · have := Int.mul_pos hd h
        omega
    omega
  · rw [if_neg hn]
    have hm : 0 < m := by
      rcases Int.lt_trichotomy m 0 with h | h | h
      · have := Int.mul_neg_of_pos_of_neg hd h
        omega
      · exact absurd h m0
      · exact h
    omega
theorem frac_fdiv {a b : Int} (hb : b ≠ 0) : let s := (if b < 0 then -(Int.gcd a b : Int) else (Int.gcd a b : Int)); s ≠ 0 ∧ a.fdiv s = (Rat.divInt a b).num ∧ b.fdiv s = ((Rat.divInt a b).den : Int) := by
  obtain ⟨m, m0, e1, e2, e3⟩ := frac_parts (a := a) hb
  intro s
  have : s = m := e3
  rw [this]
  refine ⟨m0, ?_, ?_⟩
  · have := Int.mul_fdiv_cancel (Rat.divInt a b).num m0
    rw [← e1] at this; exact this
  · have := Int.mul_fdiv_cancel ((Rat.divInt a b).den : Int) m0
    rw [← e2] at this; exact this
theorem den_pos (p : Rat) : (0 : Int) < (p.den : Int) := by
  have := p.den_nz
  omega
/-- what is in lowest terms is its own fraction -/
theorem divInt_self_parts (p : Rat) : Rat.divInt p.num (p.den : Int) = p := by rw [Rat.divInt_ofNat, Rat.mkRat_self]
theorem divInt_cross {a b : Int} (hb : b ≠ 0) : (Rat.divInt a b).num * b = a * ((Rat.divInt a b).den : Int) := by
  obtain ⟨m, m0, e1, e2, _⟩ := frac_parts (a := a) hb
  generalize (Rat.divInt a b).num = n at *
  generalize ((Rat.divInt a b).den : Int) = d at *
  subst e1 e2
  rw [Int.mul_comm d m, ← Int.mul_assoc]
/-- sizes -/
theorem Sm.mono {i j : Int} (h : Sm j) (e : i.natAbs ≤ j.natAbs) : Sm i := Nat.lt_of_le_of_lt e h
theorem sm_of {i : Int} {n : Nat} (h : i.natAbs < 2 ^ n) (hn : n ≤ 9000 := by decide) : Sm i := Nat.lt_of_lt_of_le h (Nat.pow_le_pow_right (by decide) hn)
theorem gcd_natAbs_le {a b : Int} (hb : b ≠ 0) : Int.gcd a b ≤ b.natAbs := Nat.le_of_dvd (by omega) (Int.gcd_dvd_natAbs_right a b)
theorem Sm.gcd {a b : Int} (hb : b ≠ 0) (h : Sm b) : Sm (if b < 0 then -(Int.gcd a b : Int) else (Int.gcd a b : Int)) := by
  refine h.mono ?_
  have := gcd_natAbs_le (a := a) hb
  split <;> omega
theorem mul_bd {a b A B : Int} (h0 : 0 ≤ a) (h1 : a ≤ A) (h2 : 0 ≤ b) (h3 : b ≤ B) : 0 ≤ a * b ∧ a * b ≤ A * B :=
  ⟨Int.mul_nonneg h0 h2, Int.mul_le_mul h1 h3 h2 (by omega)⟩
theorem sm_lit {i : Int} (h1 : -(2 ^ 200) < i) (h2 : i < 2 ^ 200) : Sm i := sm_of (n := 200) (by omega)
theorem gcd_emod (x y : Nat) : Nat.gcd y (x % y) = Nat.gcd x y := by rw [Nat.gcd_comm, ← Nat.gcd_rec, Nat.gcd_comm]
end Z

/-! Quiet defs called in an except suite; zip of a tuple with a list. -/
namespace Z
open PySem PySem.Spec PyProof.Rows L2
open Evl (Ex)

/-! ### quiet defs: they may be called whatever is handled -/
structure FnQ (B : Bx) (base : Heap) (k : Nat) (f : Addr) (fd : FuncData) (ps : List Str) (sp : Sp) : Prop where
  len : ∀ vs H Q E, sp vs H Q E → vs.length = ps.length
  go : ∀ (A : Around) (outer : List Env) (s : Shared) (H : Hp) (args : Args) (us : List Value) (vs : List V) (Q : VK) (E : XK), L2H.RoomH k A → Env0 B.P B.w B.K B.mg base A outer s H → BindsTo s fd args (ps.zip us) → Vals vs us → sp vs H Q E →
    codeAny (model B.P B.w) A (.call (.ref f) args) (CR (L2.CX B.P B.w) outer B.P B.w H s Q E) s
section
variable {B : Bx} {base : Heap}
/-- a quiet def, by its name -/
structure FnN (B : Bx) (base : Heap) (k : Nat) (x : Str) (ms : List Bool) (sp : SpM) : Prop where
  ex : ∃ f fd ps, FnQ B base k f fd ps (liftSp B ms sp) ∧ B.mg x = some (.ref f) ∧ PySem.W.keepIn B.K (.ref f) = true ∧ Binds B.K fd ps []
theorem FnN.mk' {x qual : Str} {pm : Arguments} {bd : List Stmt} {sc : Scope} {f : Addr} {fd : FuncData} {ps : List Str} {ms : List Bool} {sp : SpM} {k : Nat} (F : FunD B.K x qual pm bd sc [] [] f fd) (hm : B.mg x = some (.ref f)) (hb : Binds B.K fd ps []) (G : FnQ B base k f fd ps (liftSp B ms sp)) : FnN B base k x ms sp := ⟨f, fd, ps, G, hm, F.kp, hb⟩
end
section
variable {X : Cx} {wx : WX} {e : Expr} {es : List Expr} {pos p : Pos}
end

/-! ### zip of a tuple with a list -/
section
variable {prog : Program} {w : World} {A : Around} {E : Value → Shared → Prop} {s : Shared}
/-- where the five things of a zip stand, and what they hold: the tuple u at turn i, the list l at turn j -/
structure ZipM (h : Heap) (z TI TO i1 i2 u l : Addr) (i j : Nat) (xs ys : Array Value) : Prop where
  z : IsZip h z TI TO .none
  t : IsPair h TI (.ref i1) (.ref i2)
  o : ∃ a b, IsPair h TO a b
  p : h.IsTupleIter i1 u i
  q : h.IsListIter i2 l j
  x : h.IsTuple u xs
  y : h.IsList l ys
theorem zipM_item {z TI TO i1 i2 u l : Addr} {i j : Nat} {xs ys : Array Value} {x y : Value} {Q : Value → Shared → Prop} (D : ZipApart z TI TO i1 i2 u l) (m : ZipM s.heap z TI TO i1 i2 u l i j xs ys) (hx : xs[i]? = some x) (hy : ys[j]? = some y)
    (k : ∀ h', IsZip h' z TI TO (rawInt s.heap.objs.size) → IsPair h' TO x y → h'.IsTupleIter i1 u (i + 1) → h'.IsListIter i2 l (j + 1) → IsPair h' s.heap.objs.size x y → (∀ c o, c ≠ z → c ≠ TO → c ≠ i1 → c ≠ i2 → s.heap.get? c = some o → h'.get? c = some o) → Q (.ref s.heap.objs.size) { s with heap := h' }) :
    wpAny (model prog w) A (Builtin.«zip.__next__» ⟨[.ref z], []⟩) (fun fin s' => ∃ v, fin = .done (.ret v) ∧ Q v s') E s := by
  obtain ⟨a, b, mo⟩ := m.o
  show wpAny _ _ (field (.ref z) 2 >>= _) _ _ _; refine wpAny_bind (wpAny_field m.z rfl (x := .bool false) rfl ?_)
  show wpAny _ _ (field (.ref z) 3 >>= _) _ _ _; refine wpAny_bind (wpAny_field m.z rfl (x := .ref TI) rfl (wpAny_bind (wpAny_seqItems m.t rfl ?_)))
  show wpAny _ _ (Builtin.SmallTypes.ownedTupleIsFree (.ref z) >>= _) _ _ _; refine wpAny_bind ?_; unfold Builtin.SmallTypes.ownedTupleIsFree
  refine wpAny_bind (wpAny_field m.z rfl (x := .none) rfl (wpAny_pure ?_)); simp only [if_true]
  refine wpAny_bind (wpAny_rule (wpAny_bind (wpAny_field m.z rfl (x := .ref TO) rfl (wpAny_bind (wpAny_setField_rec m.z (by simp) fun g1 zz1 e1 => ?_)))))
  replace zz1 : IsZip g1 z TI TO .ellipsis := zz1
  refine wpAny_bind ?_; simp only [List.zipIdx_cons, List.zipIdx_nil, List.forIn_cons, List.forIn_nil]
  refine wpAny_bind (wpAny_bind (wpAny_onRaise ?_)); show wpAny _ _ (Builtin.SmallTypes.nextOf (.ref i1) >>= _) _ _ _
  refine wpAny_bind (RZ.nextOf_tuple_item (m.p.extBut e1.extBut D.i1z) (m.x.extBut e1.extBut D.l1z) hx fun g2 p2 e2 => wpAny_pure ?_)
  have o2 : IsPair g2 TO a b := e2.extBut _ _ D.TOi1 (e1.extBut _ _ D.TOz mo)
  refine wpAny_bind (wpAny_seqItems o2 rfl (wpAny_bind (wpAny_updateSeq_pair o2 fun g3 o3 e3 => wpAny_bind (wpAny_letGo (wpAny_pure ?_)))))
  replace o3 : IsPair g3 TO x b := o3
  refine wpAny_bind (wpAny_bind (wpAny_onRaise ?_)); show wpAny _ _ (Builtin.SmallTypes.nextOf (.ref i2) >>= _) _ _ _
  refine wpAny_bind (wpAny_nextOf_list_item (((m.q.extBut e1.extBut D.i2z).extBut e2.extBut D.i12.symm).extBut e3.extBut D.TOi2.symm) (((m.y.extBut e1.extBut D.l2z).extBut e2.extBut D.l2i1).extBut e3.extBut D.l2TO) hy fun g4 q4 e4 => wpAny_pure ?_)
  have o4 : IsPair g4 TO x b := e4.extBut _ _ D.TOi2 o3
  refine wpAny_bind (wpAny_seqItems o4 rfl (wpAny_bind (wpAny_updateSeq_pair o4 fun g5 o5 e5 => wpAny_bind (wpAny_letGo (wpAny_pure (wpAny_pure ?_))))))
  replace o5 : IsPair g5 TO x y := o5
  have sz : g5.objs.size = s.heap.objs.size := by rw [e5.1, e4.1, e3.1, e2.1, e1.1]
  have zz5 : IsZip g5 z TI TO .ellipsis := e5.extBut _ _ D.TOz.symm (e4.extBut _ _ D.i2z.symm (e3.extBut _ _ D.TOz.symm (e2.extBut _ _ D.i1z.symm zz1)))
  have old : ∀ c o, c ≠ z → c ≠ TO → c ≠ i1 → c ≠ i2 → s.heap.get? c = some o → g5.get? c = some o := fun c o c1 c2 c3 c4 r =>
    e5.extBut _ _ c2 (e4.extBut _ _ c4 (e3.extBut _ _ c2 (e2.extBut _ _ c3 (e1.extBut _ _ c1 r))))
  have p5 : g5.IsTupleIter i1 u (i + 1) := ((p2.extBut e3.extBut D.TOi1.symm).extBut e4.extBut D.i12).extBut e5.extBut D.TOi1.symm
  have q5 : g5.IsListIter i2 l (j + 1) := q4.extBut e5.extBut D.TOi2.symm
  have ltz : z < g5.objs.size := Heap.lt_size zz5
  refine wpAny_bind (wpAny_seqItems o5 rfl (wpAny_bind (wpAny_newTuple ?_)))
  show wpAny _ _ (Builtin.SmallTypes.ownedTupleHandOut (.ref z) (.ref g5.objs.size) >>= _) _ _ _; refine wpAny_bind ?_; unfold Builtin.SmallTypes.ownedTupleHandOut
  have zz6 : IsZip (g5.push { cls := .type "tuple", data := .seq #[x, y] }) z TI TO .ellipsis := Heap.get?_push_of_some _ zz5
  refine wpAny_bind (wpAny_setField_rec zz6 (by simp) fun g7 zz7 e7 => ?_)
  replace zz7 : IsZip g7 z TI TO (rawInt g5.objs.size) := zz7
  refine wpAny_setField_rec zz7 (by simp) fun g8 zz8 e8 => ?_
  replace zz8 : IsZip g8 z TI TO (rawInt g5.objs.size) := zz8
  have up8 : ∀ c o, c ≠ z → g5.get? c = some o → g8.get? c = some o := fun c o c1 r => e8.extBut _ _ c1 (e7.extBut _ _ c1 (Heap.get?_push_of_some _ r))
  have t8 : IsPair g8 g5.objs.size x y := e8.extBut _ _ (Nat.ne_of_gt ltz) (e7.extBut _ _ (Nat.ne_of_gt ltz) (Heap.get?_push_size _ rfl))
  rw [sz] at zz8 t8
  refine wpAny_pure ⟨_, rfl, ?_⟩
  show Q (.ref g5.objs.size) _; rw [sz]
  exact k g8 zz8 (up8 _ _ D.TOz o5) (p5.at fun o r => up8 _ o D.i1z r) (q5.at fun o r => up8 _ o D.i2z r) t8 fun c o c1 c2 c3 c4 r => up8 c o c1 (old c o c1 c2 c3 c4 r)
theorem zipM_end {z TI TO i1 i2 u l : Addr} {i j : Nat} {xs ys : Array Value} {Q : Fin → Shared → Prop} (hh : A.handled = none) (D : ZipApart z TI TO i1 i2 u l) (m : ZipM s.heap z TI TO i1 i2 u l i j xs ys) (fin : xs[i]? = none ∨ ys[j]? = none)
    (k : ∀ h' e, (∀ c o, c ≠ z → c ≠ TO → c ≠ i1 → c ≠ i2 → s.heap.get? c = some o → h'.get? c = some o) → (∃ o, h'.get? e = some o ∧ o.cls = .type "StopIteration") → E (.ref e) { s with heap := h' }) :
    wpAny (model prog w) A (Builtin.«zip.__next__» ⟨[.ref z], []⟩) Q E s := by
  obtain ⟨a, b, mo⟩ := m.o
  show wpAny _ _ (field (.ref z) 2 >>= _) _ _ _; refine wpAny_bind (wpAny_field m.z rfl (x := .bool false) rfl ?_)
  show wpAny _ _ (field (.ref z) 3 >>= _) _ _ _; refine wpAny_bind (wpAny_field m.z rfl (x := .ref TI) rfl (wpAny_bind (wpAny_seqItems m.t rfl ?_)))
  show wpAny _ _ (Builtin.SmallTypes.ownedTupleIsFree (.ref z) >>= _) _ _ _; refine wpAny_bind ?_; unfold Builtin.SmallTypes.ownedTupleIsFree
  refine wpAny_bind (wpAny_field m.z rfl (x := .none) rfl (wpAny_pure ?_)); simp only [if_true]
  refine wpAny_bind (wpAny_rule (wpAny_bind (wpAny_field m.z rfl (x := .ref TO) rfl (wpAny_bind (wpAny_setField_rec m.z (by simp) fun g1 zz1 e1 => ?_)))))
  replace zz1 : IsZip g1 z TI TO .ellipsis := zz1
  refine wpAny_bind ?_; simp only [List.zipIdx_cons, List.zipIdx_nil, List.forIn_cons, List.forIn_nil]
  refine wpAny_bind (wpAny_bind (wpAny_onRaise ?_)); show wpAny _ _ (Builtin.SmallTypes.nextOf (.ref i1) >>= _) _ _ _
  cases hx : xs[i]? with
  | none =>
    refine wpAny_bind (RZ.nextOf_tuple_end hh (m.p.extBut e1.extBut D.i1z) (m.x.extBut e1.extBut D.l1z) hx fun g2 e e2 ⟨oe, he, hc⟩ => ?_)
    have zz2 : IsZip g2 z TI TO .ellipsis := e2 _ _ D.i1z.symm zz1
    have ez : e ≠ z := fun r => by subst r; rw [zz2] at he; cases he; simp at hc
    exact wpAny_setField_rec zz2 (by simp) fun g3 _ e3 => k g3 e (fun c o c1 _ c3 _ r => e3.extBut _ _ c1 (e2 _ _ c3 (e1.extBut _ _ c1 r))) ⟨oe, e3.extBut _ _ ez he, hc⟩
  | some x =>
    have hy : ys[j]? = none := fin.elim (fun h => by rw [hx] at h; cases h) id
    refine wpAny_bind (RZ.nextOf_tuple_item (m.p.extBut e1.extBut D.i1z) (m.x.extBut e1.extBut D.l1z) hx fun g2 p2 e2 => wpAny_pure ?_)
    have o2 : IsPair g2 TO a b := e2.extBut _ _ D.TOi1 (e1.extBut _ _ D.TOz mo)
    refine wpAny_bind (wpAny_seqItems o2 rfl (wpAny_bind (wpAny_updateSeq_pair o2 fun g3 o3 e3 => wpAny_bind (wpAny_letGo (wpAny_pure ?_)))))
    refine wpAny_bind (wpAny_bind (wpAny_onRaise ?_)); show wpAny _ _ (Builtin.SmallTypes.nextOf (.ref i2) >>= _) _ _ _
    refine wpAny_bind (wpAny_nextOf_list_end hh (((m.q.extBut e1.extBut D.i2z).extBut e2.extBut D.i12.symm).extBut e3.extBut D.TOi2.symm) (((m.y.extBut e1.extBut D.l2z).extBut e2.extBut D.l2i1).extBut e3.extBut D.l2TO) hy fun g4 e e4 ⟨oe, he, hc⟩ => ?_)
    have zz4 : IsZip g4 z TI TO .ellipsis := e4 _ _ D.i2z.symm (e3.extBut _ _ D.TOz.symm (e2.extBut _ _ D.i1z.symm zz1))
    have ez : e ≠ z := fun r => by subst r; rw [zz4] at he; cases he; simp at hc
    exact wpAny_setField_rec zz4 (by simp) fun g5 _ e5 => k g5 e (fun c o c1 c2 c3 c4 r => e5.extBut _ _ c1 (e4 _ _ c4 (e3.extBut _ _ c2 (e2.extBut _ _ c3 (e1.extBut _ _ c1 r))))) ⟨oe, e5.extBut _ _ ez he, hc⟩
theorem nextM_item {z TI TO i1 i2 u l : Addr} {i j : Nat} {xs ys : Array Value} {x y : Value} {Q : Option Value → Shared → Prop} (D : ZipApart z TI TO i1 i2 u l) (m : ZipM s.heap z TI TO i1 i2 u l i j xs ys) (hx : xs[i]? = some x) (hy : ys[j]? = some y)
    (k : ∀ h', IsZip h' z TI TO (rawInt s.heap.objs.size) → IsPair h' TO x y → h'.IsTupleIter i1 u (i + 1) → h'.IsListIter i2 l (j + 1) → IsPair h' s.heap.objs.size x y → (∀ c o, c ≠ z → c ≠ TO → c ≠ i1 → c ≠ i2 → s.heap.get? c = some o → h'.get? c = some o) → Q (some (.ref s.heap.objs.size)) { s with heap := h' }) :
    wpAny (model prog w) A (pyNext (.ref z)) Q E s := by
  have ty : s.TypeIs (.ref z) "zip" := ⟨_, m.z, rfl⟩
  unfold pyNext
  refine wpAny_bind (wpAny_attempt (wpAny_callSpecial?_slot (name := Str.ofString "__next__") ty F.slot_zip_next (wpAny_call_entry F.slot_zip_next ty F.entry_zip_next (zipM_item D m hx hy fun h' b1 b2 b3 b4 b5 b6 => ?_) (F.args_zip_next_1 _))))
  exact wpAny_pure (k h' b1 b2 b3 b4 b5 b6)
theorem nextM_end {z TI TO i1 i2 u l : Addr} {i j : Nat} {xs ys : Array Value} {Q : Option Value → Shared → Prop} (hh : A.handled = none) (D : ZipApart z TI TO i1 i2 u l) (m : ZipM s.heap z TI TO i1 i2 u l i j xs ys) (fin : xs[i]? = none ∨ ys[j]? = none)
    (k : ∀ h', (∀ c o, c ≠ z → c ≠ TO → c ≠ i1 → c ≠ i2 → s.heap.get? c = some o → h'.get? c = some o) → Q none { s with heap := h' }) : wpAny (model prog w) A (pyNext (.ref z)) Q E s := by
  have ty : s.TypeIs (.ref z) "zip" := ⟨_, m.z, rfl⟩
  unfold pyNext
  refine wpAny_bind (wpAny_attempt (wpAny_callSpecial?_slot (name := Str.ofString "__next__") ty F.slot_zip_next (wpAny_call_entry F.slot_zip_next ty F.entry_zip_next (zipM_end hh D m fin fun h' e old ⟨o, ho, hc⟩ => ?_) (F.args_zip_next_1 _))))
  exact wpAny_bind (wpAny_isInstance (T := "StopIteration") (b := true) ⟨o, ho, hc⟩ isSubtype_stop (wpAny_pure (k _ old)))
end
def zmA (h : Heap) (u : Addr) : Heap := h.push { cls := .type "tuple_iterator", data := .fields #[.ref u, .int 0 0] }
def zmB (h : Heap) (u l : Addr) : Heap := (zmA h u).push { cls := .type "list_iterator", data := .fields #[.ref l, .int 0 0] }
def zmC (h : Heap) (u l : Addr) : Heap := (zmB h u l).push { cls := .type "tuple", data := .seq #[.ref h.objs.size, .ref (zmA h u).objs.size] }
def zmD (h : Heap) (u l : Addr) : Heap := (zmC h u l).push { cls := .type "tuple", data := .seq #[.none, .none] }
def zmE (h : Heap) (u l : Addr) : Heap := (zmD h u l).push { cls := .type "zip", data := .fields #[.none, .bool false, .bool false, .ref (zmB h u l).objs.size, .ref (zmC h u l).objs.size] }
theorem meets_zm (u l : Addr) (xs ys : Array Value) : Meets (Builtin.«zip.__new__» ⟨[.type "zip", .ref u, .ref l], []⟩) (fun _ R s => s.heap.IsTuple u xs ∧ s.heap.IsList l ys ∧ R (.ok (.ret (.ref (zmD s.heap u l).objs.size))) { s with heap := zmE s.heap u l }) :=
  .of_wp fun prog w A R s h => by
    obtain ⟨hp, g, d, tk, os⟩ := s
    obtain ⟨ha, hb, h⟩ := h
    have hsub := sub_zip
    have hA : Heap.IsTuple (Shared.heap ⟨hp, g, d, tk, os⟩) u xs := ha
    have hB : Heap.IsList (Shared.heap ⟨hp.push { cls := .type "tuple_iterator", data := .fields #[.ref u, .int 0 0] }, g, d, tk, os⟩) l ys := Heap.IsList.push hb _
    wp_walk using wpAny_pyIter_tuple hA, wpAny_pyIter_list hB
    exact ⟨_, rfl, h⟩
section
variable {prog : Program} {w : World} {A : Around} {E : Value → Shared → Prop} {s : Shared}
theorem call_zm {u l : Addr} {xs ys : Array Value} {Q : Value → Shared → Prop} (hx : s.heap.IsTuple u xs) (hy : s.heap.IsList l ys)
    (k : ∀ h', ZipM h' (s.heap.objs.size + 4) (s.heap.objs.size + 2) (s.heap.objs.size + 3) s.heap.objs.size (s.heap.objs.size + 1) u l 0 0 xs ys → (∀ c o, s.heap.get? c = some o → h'.get? c = some o) → Q (.ref (s.heap.objs.size + 4)) { s with heap := h' }) :
    wpAny (model prog w) A (call (.type "zip") [.ref u, .ref l]) Q E s := by
  refine callType_new F.called_zip (by decide) (F.typeCall_zip_2 _ _) (F.newCall_zip_2 _ _) (fun ob => F.args_object_init_3 ob _ _) F.entry_zip_new (meets_zm u l xs ys) ⟨hx, hy, ?_⟩
  have n1 : (zmA s.heap u).objs.size = s.heap.objs.size + 1 := Heap.size_push ..
  have n2 : (zmB s.heap u l).objs.size = s.heap.objs.size + 2 := (Heap.size_push ..).trans (congrArg (· + 1) n1)
  have n3 : (zmC s.heap u l).objs.size = s.heap.objs.size + 3 := (Heap.size_push ..).trans (congrArg (· + 1) n2)
  have n4 : (zmD s.heap u l).objs.size = s.heap.objs.size + 4 := (Heap.size_push ..).trans (congrArg (· + 1) n3)
  have old1 : ∀ c o, s.heap.get? c = some o → (zmA s.heap u).get? c = some o := fun c o => Heap.get?_push_of_some _
  have old2 : ∀ c o, (zmA s.heap u).get? c = some o → (zmB s.heap u l).get? c = some o := fun c o => Heap.get?_push_of_some _
  have old3 : ∀ c o, (zmB s.heap u l).get? c = some o → (zmC s.heap u l).get? c = some o := fun c o => Heap.get?_push_of_some _
  have old4 : ∀ c o, (zmC s.heap u l).get? c = some o → (zmD s.heap u l).get? c = some o := fun c o => Heap.get?_push_of_some _
  have old5 : ∀ c o, (zmD s.heap u l).get? c = some o → (zmE s.heap u l).get? c = some o := fun c o => Heap.get?_push_of_some _
  have v5 : (zmE s.heap u l).get? (zmD s.heap u l).objs.size = some { cls := .type "zip", data := .fields #[.none, .bool false, .bool false, .ref (zmB s.heap u l).objs.size, .ref (zmC s.heap u l).objs.size] } := Heap.get?_push_size _ rfl
  have v4 : (zmE s.heap u l).get? (zmC s.heap u l).objs.size = some { cls := .type "tuple", data := .seq #[.none, .none] } := old5 _ _ (Heap.get?_push_size _ rfl)
  have v3 : (zmE s.heap u l).get? (zmB s.heap u l).objs.size = some { cls := .type "tuple", data := .seq #[.ref s.heap.objs.size, .ref (zmA s.heap u).objs.size] } := old5 _ _ (old4 _ _ (Heap.get?_push_size _ rfl))
  have v2 : (zmE s.heap u l).get? (zmA s.heap u).objs.size = some { cls := .type "list_iterator", data := .fields #[.ref l, .int 0 0] } := old5 _ _ (old4 _ _ (old3 _ _ (Heap.get?_push_size _ rfl)))
  have v1 : (zmE s.heap u l).get? s.heap.objs.size = some { cls := .type "tuple_iterator", data := .fields #[.ref u, .int 0 0] } := old5 _ _ (old4 _ _ (old3 _ _ (old2 _ _ (Heap.get?_push_size _ rfl))))
  have olds : ∀ c o, s.heap.get? c = some o → (zmE s.heap u l).get? c = some o := fun c o r => old5 _ _ (old4 _ _ (old3 _ _ (old2 _ _ (old1 _ _ r))))
  show _ ∧ _
  rw [n2, n3, n4] at v5
  rw [n1, n2] at v3
  rw [n3] at v4
  rw [n1] at v2
  rw [n4]
  obtain ⟨ox, gx, rx⟩ := hx
  obtain ⟨oy, gy, ry⟩ := hy
  exact ⟨⟨_, v5, rfl⟩, k _ ⟨v5, v3, ⟨_, _, v4⟩, ⟨_, v1, rfl, rfl⟩, ⟨_, v2, rfl, rfl⟩, ⟨ox, olds _ _ gx, rx⟩, ⟨oy, olds _ _ gy, ry⟩⟩ olds⟩
end
/-- the tuple at a and the list at b as they stand at each turn, the items in new pairs -/
def ItzM (K : PySem.W.Frag) (a b : Addr) : It where
  go := fun i H => ∃ (xs ys : List V) (x y : V), SqT K H a xs ∧ SqL K H b ys ∧ xs[i]? = some x ∧ ys[i]? = some y
  yld := fun i H v H' => ∃ T x y, v = .ref T ∧ H T = none ∧ H' = upd H T (.tup [x, y]) ∧ (∀ xs, SqT K H a xs → xs[i]? = some x) ∧ ∀ ys, SqL K H b ys → ys[i]? = some y
  stop := fun i H => ∃ xs ys : List V, SqT K H a xs ∧ SqL K H b ys ∧ (xs.length ≤ i ∨ ys.length ≤ i)
theorem mem5 {c z TI TO i1 i2 : Addr} (h : c ∈ [z, TI, TO, i1, i2]) {P : Addr → Prop} (h1 : P z) (h2 : P TI) (h3 : P TO) (h4 : P i1) (h5 : P i2) : P c := by
  simp only [List.mem_cons, List.not_mem_nil, or_false] at h
  rcases h with rfl | rfl | rfl | rfl | rfl <;> assumption
theorem not5 {c z TI TO i1 i2 : Addr} (h : c ∉ [z, TI, TO, i1, i2]) : c ≠ z ∧ c ≠ TI ∧ c ≠ TO ∧ c ≠ i1 ∧ c ≠ i2 := by
  simp only [List.mem_cons, List.not_mem_nil, or_false, not_or] at h
  exact h
theorem turn_zm {P : Program} {w : World} {K : PySem.W.Frag} {elts : List Expr} {kk : Nat} {tpos : Pos} {a b z TI TO i1 i2 : Addr} (D : ZipApart z TI TO i1 i2 a b) :
    Turn P w K (.Tuple elts kk tpos) (ItzM K a b) [z, TI, TO, i1, i2] z (fun i h => IsZip h z TI TO .none ∧ IsPair h TI (.ref i1) (.ref i2) ∧ (∃ x y, IsPair h TO x y) ∧ h.IsTupleIter i1 a i ∧ h.IsListIter i2 b i) where
  mem := List.mem_cons_self ..
  obj := fun i h st c hc => by
    obtain ⟨s1, s2, ⟨x, y, s3⟩, ⟨o1, s4, _, d1⟩, ⟨o2, s5, _, d2⟩⟩ := st
    exact mem5 hc (P := fun c => ∃ o, h.get? c = some o ∧ ∀ v, o.data ≠ .cell v) ⟨_, s1, fun v q => nomatch q⟩ ⟨_, s2, fun v q => nomatch q⟩ ⟨_, s3, fun v q => nomatch q⟩ ⟨o1, s4, fun v q => by rw [d1] at q; cases q⟩ ⟨o2, s5, fun v q => by rw [d2] at q; cases q⟩
  keep := fun i h h' st k => by
    obtain ⟨s1, s2, ⟨x, y, s3⟩, s4, s5⟩ := st
    exact ⟨k z (by simp) _ s1, k TI (by simp) _ s2, ⟨x, y, k TO (by simp) _ s3⟩, s4.at fun o q => k i1 (by simp) o q, s5.at fun o q => k i2 (by simp) o q⟩
  item := by
    intro X hP hw hK hc i pins s σ H E I hf st hg
    subst hP hw hK
    obtain ⟨xs, ys, x, y, qx, qy, gx, gy⟩ := hg
    obtain ⟨its, rv, p, _⟩ := I.tuple qx
    obtain ⟨its2, rv2, p2, _⟩ := I.list qy
    obtain ⟨u, hu, ru⟩ := rv.get gx
    obtain ⟨u2, hu2, ru2⟩ := rv2.get gy
    obtain ⟨s1, s2, ⟨x0, y0, s3⟩, s4, s5⟩ := st
    have zl : z < s.heap.objs.size := Heap.lt_size s1
    refine nextM_item D ⟨s1, s2, ⟨_, _, s3⟩, s4, s5, p, p2.isList⟩ (x := u) (y := u2) (by simpa using hu) (by simpa using hu2) fun h' z' o' p' q' t' old => ⟨_, rfl, wpAny_letOwnedTupleGo_zip (s := { s with heap := h' }) z' fun h'' z'' sb => ?_⟩
    have tt : h''.get? s.heap.objs.size = some { cls := .type "tuple", data := .seq #[u, u2] } := (sb.2 _ (Nat.ne_of_gt zl)).trans t'
    have nw : ObjOk X.prog X.w (upd H s.heap.objs.size (.tup [x, y])) h'' s.heap.objs.size (.tup [x, y]) := ⟨by show 2 ≤ sizeLine; decide, [u, u2], .cons ru (.cons ru2 .nil), ⟨_, tt, rfl, _, rfl⟩⟩
    have J : Inv X pins σ (upd H s.heap.objs.size (.tup [x, y])) { s with heap := h'' } := I.turnedNew (t' := s.toks) (ch := [z, TI, TO, i1, i2]) (fun c o hb q => by
      obtain ⟨b1, b2, b3, b4, b5⟩ := not5 hb
      exact (sb.2 c b1).trans (old c o b1 b3 b4 b5 q)) hf (Nat.le_refl _) nw
    refine ⟨.ref s.heap.objs.size, _, J, rfl, ⟨_, x, y, rfl, I.hok.fresh (Nat.le_refl _), rfl, fun l hl => by rw [I.tuple_inj hl qx]; exact gx, fun l hl => by rw [I.list_inj hl qy]; exact gy⟩, ⟨z'', (sb.2 _ D.TIz).trans (old _ _ D.TIz D.TITO D.TIi1 D.TIi2 s2), ⟨u, u2, (sb.2 _ D.TOz).trans o'⟩, p'.at fun o q => (sb.2 _ D.i1z).trans q, q'.at fun o q => (sb.2 _ D.i2z).trans q⟩, fun c hcm => ?_⟩
    have lt : c < s.heap.objs.size := mem5 hcm (P := fun c => c < s.heap.objs.size) zl (Heap.lt_size s2) (Heap.lt_size s3) (by obtain ⟨_, e1, _⟩ := s4; exact Heap.lt_size e1) (by obtain ⟨_, e2, _⟩ := s5; exact Heap.lt_size e2)
    rw [upd_ne (Nat.ne_of_lt lt)]
    exact (hf c hcm).1
  done := by
    intro X hP hw hK hc i pins s σ H E I hf st hg
    subst hP hw hK
    obtain ⟨xs, ys, qx, qy, fin⟩ := hg
    obtain ⟨its, rv, p, _⟩ := I.tuple qx
    obtain ⟨its2, rv2, p2, _⟩ := I.list qy
    have n1 := rv.length
    have n2 := rv2.length
    obtain ⟨s1, s2, ⟨x0, y0, s3⟩, s4, s5⟩ := st
    refine nextM_end (I.ok.hd hc) D ⟨s1, s2, ⟨_, _, s3⟩, s4, s5, p, p2.isList⟩ (fin.imp (fun q => by simp; omega) fun q => by simp; omega) fun h' old => ⟨rfl, I.turnedL (t' := s.toks) (ch := [z, TI, TO, i1, i2]) (fun c o hb q => ?_) hf⟩
    obtain ⟨b1, b2, b3, b4, b5⟩ := not5 hb
    exact old c o b1 b3 b4 b5 q
  self := fun A i s Q E st h => wpAny_pyIter_zip st.1 h
def iZipM (K : PySem.W.Frag) (ta : TA) : TI := fun σ H R => ta σ H fun vs H1 => ∃ a b xs ys, vs = [.ref a, .ref b] ∧ SqT K H1 a xs ∧ SqL K H1 b ys ∧ R (ItzM K a b) H1
theorem pi_zipM {X : Cx} {e e2 : Expr} {ta : TA} {p pos tpos : Pos} {elts : List Expr} {kk : Nat} (hg : Gl X "zip") (hm : X.mg "zip" = none) (ha : PA X [e, e2] ta)
    (hs : starEach [e, e2] X.env = (false, eval e X.env) :: starEach [e2] X.env := by rfl) (hpl : (backTo pos (starEach [e2] X.env)).any (·.1) = false := by rfl) : PI X (.Tuple elts kk tpos) (.Call (.Name "zip" p) [e, e2] [] pos) (iZipM X.K ta) := by
  refine ⟨fun pins s σ H R I h => Call_ (ld_blt I hg hm PyProof.Rows.boot_zip (PyProof.Rows.callWith_type1 (thn (ha.run pos pins s σ H _ I h) fun us s1 ⟨vs, H1, I1, r1, a, b, xs, ys, ex, qx, qy, q⟩ => ?_) hs hpl))⟩
  subst ex
  cases r1 with
  | cons r rr =>
    cases rr with
    | cons r' rr =>
      cases rr
      cases r
      cases r'
      obtain ⟨its, rv, p1, _⟩ := I1.tuple qx
      obtain ⟨its2, rv2, p2, _⟩ := I1.list qy
      obtain ⟨o1, ho1, _⟩ := id p1
      refine call_zm (show s1.heap.IsTuple a its.toArray from p1) p2.isList fun h' m old => wpAny_pyIter_zip m.z ?_
      refine ⟨s1.heap.objs.size + 4, [s1.heap.objs.size + 4, s1.heap.objs.size + 2, s1.heap.objs.size + 3, s1.heap.objs.size, s1.heap.objs.size + 1], _, _, H1, rfl, I1.kept (t' := s1.toks) old, turn_zm (PySem.W.ktu_apart s1.heap.objs.size a b (Heap.lt_size ho1) p2.lt), ⟨m.z, m.t, m.o, m.p, m.q⟩, fun c hcm => ?_, q⟩
      have ge : s1.heap.objs.size ≤ c := mem5 hcm (P := fun c => s1.heap.objs.size ≤ c) (Nat.le_add_right _ _) (Nat.le_add_right _ _) (Nat.le_add_right _ _) (Nat.le_refl _) (Nat.le_add_right _ _)
      exact I1.fpOk ge (I1.hok.fresh ge)
def dZipM (R : DTA) : DTA := fun ρ M Q E => R ρ M (fun ds M' => match ds with | [.tup xs, .lst ys] => Q (zipD xs ys) M' | _ => False) E
section
variable {X : Cx} {wx : WX} {e a b : Expr} {T Ta Tb : DTE} {pos : Pos}
theorem di_zipM {ms : List Bool} {Ra : DTA} {p tpos : Pos} {elts : List Expr} {kk : Nat} (hm : X.mg "zip" = none) (ha : DM X wx ms [a, b] Ra) (hms : ms.any id = false := by rfl) (hg : Gl X "zip" := by rfl)
    (hs : starEach [a, b] X.env = (false, eval a X.env) :: starEach [b] X.env := by rfl) (hpl : (backTo pos (starEach [b] X.env)).any (·.1) = false := by rfl) : DI X wx (.Tuple elts kk tpos) (.Call (.Name "zip" p) [a, b] [] pos) (dZipM Ra) := by
  obtain ⟨t, pa, r⟩ := ha
  refine ⟨_, pi_zipM hg hm pa hs hpl, fun W0 W m σ ρ M Q Qd Ed R mk h1 h2 h3 => r W0 W m σ ρ M _ _ _ R mk h1 (fun ds vs W' m' M' q le mk' hv => ?_) h3⟩
  have hv := hv.all hms
  split at q
  · rename_i xs ys
    cases hv with
    | cons r1 t1 =>
      cases t1 with
      | cons r2 t2 =>
        cases t2
        cases r1 with
        | tup h4 h5 =>
          cases r2 with
          | lst g4 g5 =>
            rename_i a1 v1 a2 v2
            refine ⟨a1, a2, v1, v2, rfl, Evl.ex_t (W'.ok.trans (cat_ex W'.H m')) h4, Evl.ex_l (W'.ok.trans (cat_ex W'.H m')) g4, h2 _ _ W' m' M' q le mk' fun i W2 m2 M2 le2 ex mk2 => ?_⟩
            have sq1 : SqT X.K (cat W2.H m2) a1 v1 := Evl.ex_t (W2.ok.trans (cat_ex W2.H m2)) (Evl.ex_t ex h4)
            have sq2 : SqL X.K (cat W2.H m2) a2 v2 := Evl.ex_l (W2.ok.trans (cat_ex W2.H m2)) (Evl.ex_l ex g4)
            refine ⟨fun d hd => ?_, fun hl => ⟨v1, v2, sq1, sq2, by rw [h5.length, g5.length]; rw [zipD_len] at hl; omega⟩⟩
            obtain ⟨x, y, hx, hy, rfl⟩ := zipD_get hd
            obtain ⟨vx, g1, g2⟩ := h5.get hx
            obtain ⟨vy, k1, k2⟩ := g5.get hy
            refine ⟨⟨v1, v2, vx, vy, sq1, sq2, g1, k1⟩, fun x' H' z => ?_⟩
            obtain ⟨T, x2, y2, rfl, hT, rfl, z1, z2⟩ := z
            have e1 := z1 v1 sq1
            have e2 := z2 v2 sq2
            rw [g1] at e1
            rw [k1] at e2
            cases e1
            cases e2
            have hT1 := (cat_new hT).1
            exact ⟨W2.new T _, W2.le_new hT1, cat_upd.symm, mk2.new hT, .tup (SqT.of (upd_same (H := W2.F))) (.cons ((g2.mono ex).mono (W2.le_new hT1).f) (.cons ((k2.mono ex).mono (W2.le_new hT1).f) .nil))⟩
  · exact q.elim
end
/-- a promise that promises nothing is kept -/
theorem FnB.no {B : Bx} {base : Heap} {k : Nat} {f : Addr} {fd : FuncData} {ps : List Str} {ms : List Bool} {sp : SpM} (h : ∀ ds M Q E, sp ds M Q E → False) : FnB B base k f fd ps ms sp :=
  ⟨fun _ _ _ _ ⟨_, _, _, _, _, _, _, _, _, z, _⟩ => (h _ _ _ _ z).elim, fun _ _ _ _ _ _ _ _ _ _ _ _ _ ⟨_, _, _, _, _, _, _, _, _, z, _⟩ => (h _ _ _ _ z).elim⟩
end Z

/-! A list of the store taken over as an own one; own things lent for the time of an expression. -/
namespace Z
open PySem PySem.Spec PyProof.Rows L2
open Evl (Ex)
section
variable {X : Cx} {wx : WX} {st : Stmt} {S : DTS} {e : Expr}
/-- a list of the store that a name points to becomes the name's own -/
def dTake (i : Nat) (S : DTS) : DTS := fun DD ρ M => match ga ρ i with
  | .dat (.ref a) => (match M a with | some (.lst ds) => S DD (ρ.set i (.own ds)) (delM M a) | _ => S DD ρ M)
  | _ => S DD ρ M
/-! ### lent for a while -/
def lend1 : Ent → Ent
  | .own ds => .bor (.lst ds)
  | .dk t ks => .bor (.dic t ks)
  | e => e
def lendE : List Ent → List Ent
  | [] => []
  | e :: r => lend1 e :: lendE r
def dLendT (U : DTT) : DTT := fun ρ M Q E => U (lendE ρ) M Q E
def dLendE (T : DTE) : DTE := fun ρ M Q E => T (lendE ρ) M Q E
/-! ### x[k] by values -/
end
end Z

/-! Values frozen as they are met; stores into lists of lists; max of a list; index of a tuple. -/
namespace Z
open PySem PySem.Spec PyProof.Rows L2
open Evl (Ex)
section
variable {X : Cx} {wx : WX} {e o b : Expr} {es : List Expr} {T To Tk Ta : DTE} {pos tpos : Pos}
/-- the value of an expression, frozen if it is a thing of the store -/
def fzv (d : D) (M : Mu) (Q : D → Mu → Prop) : Prop := match d with
  | .ref a => (match M a with | some ob => Q (obD ob) (delM M a) | none => Q (.ref a) M)
  | d => Q d M
def dFzv (T : DTE) : DTE := fun ρ M Q E => T ρ M (fun d M1 => fzv d M1 Q) E
theorem DE.fzv (h : DE X wx e T) : DE X wx e (dFzv T) := by
  obtain ⟨t, p, r⟩ := h
  refine ⟨t, p, fun W0 W m σ ρ M Q Qd Ed R k h1 h2 h3 => r W0 W m σ ρ M Q _ Ed R k h1 (fun d v W' m' M' q le k' hv => ?_) h3⟩
  unfold Z.fzv at q
  split at q
  · rename_i a
    split at q
    · rename_i ob z
      cases hv
      obtain ⟨W2, m2, e1, le2, k2, rp⟩ := k'.freezeA z
      rw [← e1]
      exact h2 _ _ W2 m2 _ q (le.trans le2) k2 rp
    · exact h2 _ v W' m' M' q le k' hv
  · exact h2 _ v W' m' M' q le k' hv
/-- o[k] = e, o a list of the store -/
def dStoreX (To Tk Te : DTE) : DTS := fun DD ρ M => Te ρ M (fun d M1 => To ρ M1 (fun x M2 => Tk ρ M2 (fun k M3 => onLst M3 x fun a ds => lmSet M3 ds [k, d] fun _ ds' => DD.nx ρ (updM M3 a (.lst ds'))) fun C => DD.ex C ρ) fun C => DD.ex C ρ) fun C => DD.ex C ρ
end
/-! ### max of a list of ints -/
/-! ### xs.index(x), of nested data -/
def oIdxD (x : D) (as : List D) (Q : D → Prop) : Prop := match x, as with
  | .lst ys, [z] => ∃ (j : Nat) (y : D), SeqAt.shaped (D.lst ys).py = true ∧ SeqAt.shaped z.py = true ∧ ys[j]? = some y ∧ PyData.eqv y.py z.py = true ∧ (∀ (k : Nat) (y' : D), k < j → ys[k]? = some y' → PyData.eqv y'.py z.py = false) ∧ Q (.int (j : Nat))
  | _, _ => False
def dLidxD (To : DTE) (R : DTA) : DTE := fun ρ M Q E => To ρ M (fun x M1 => isLD (drf M1 x) ∧ R ρ M1 (fun as M2 => oIdxD (drf M2 x) (as.map (drf M2)) fun d => Q d M2) E) E
section
variable {X : Cx} {wx : WX} {e o ce : Expr} {es : List Expr} {To : DTE} {R : DTA} {ms : List Bool}
end
end Z

/-! An own list given to the store; < of lists of ints; zip of three lists. -/
namespace Z
open PySem PySem.Spec PyProof.Rows L2
open Evl (Ex)
section
variable {X : Cx} {wx : WX} {st : Stmt} {S : DTS}
/-- an own list is put into the store -/
def dGive (i : Nat) (S : DTS) : DTS := fun DD ρ M => match ga ρ i with
  | .own ds => ∀ p, M p = none → S DD (ρ.set i (.dat (.ref p))) (updM M p (.lst ds))
  | _ => S DD ρ M
end
/-! ### < of lists of ints -/
def ltL (ns ms : List Int) : Bool := SeqAt.firstLt (fun j => decide (ns.getD j 0 = ms.getD j 0)) (fun j => decide (ns.getD j 0 < ms.getD j 0)) (decide (ns.length < ms.length)) (List.range (min ns.length ms.length))
/-- < of ints or of lists of ints -/
def oLtA (x y : D) (Q : D → Prop) : Prop := match x, y with
  | .int i, .int j => Q (.bl (decide (i < j)))
  | .lst xs, .lst ys => ∃ ns ms : List Int, xs = ns.map .int ∧ ys = ms.map .int ∧ Q (.bl (ltL ns ms))
  | _, _ => False
/-! ### zip of three lists -/
section
variable {prog : Program} {w : World} {A : Around} {E : Value → Shared → Prop} {s : Shared}
end
section
variable {prog : Program} {w : World} {A : Around} {E : Value → Shared → Prop} {s : Shared}
end
def zip3D (xs ys zs : List D) : List D := (xs.zip (ys.zip zs)).map fun p => D.tup [p.1, p.2.1, p.2.2]
def dZip3 (R : DTA) : DTA := fun ρ M Q E => R ρ M (fun ds M' => match ds with | [.lst xs, .lst ys, .lst zs] => Q (zip3D xs ys zs) M' | _ => False) E
section
variable {X : Cx} {wx : WX} {e a b c : Expr} {pos : Pos}
end
/-! ### products of great numbers -/
def oMulW (x y : D) (Q : D → Prop) : Prop := match x, y with
  | .int i, .int j => CMulW i j ∧ Q (.int (i * j))
  | _, _ => False
end Z

/-! A dict that a field points to, and the things that its values point to, are frozen. -/
namespace Z
open PySem PySem.Spec PyProof.Rows L2
open Evl (Ex)
section
variable {X : Cx} {wx : WX} {st : Stmt} {S : DTS}
end
/-! ### list(d): the keys of a dict -/
def oListD (ds : List D) (Q : List D → Prop) : Prop := match ds with
  | [.dic _ ks] => Q (ks.map (·.1))
  | _ => False
def dListD (R : DTA) : DTA := fun ρ M Q E => R ρ M (fun ds M' => oListD (ds.map (drf M')) fun xs => Q xs M') E
section
variable {X : Cx} {wx : WX} {e : Expr} {pos : Pos}
end
end Z

namespace Z
open PySem L2

/-! ### readings at work: rules to compute with -/
section
variable {M : Mu} {Q : D → Prop} {i j : Int} {x y : Str} {xs ys : List D} {a b : Bool} {n : Str} {fs : List (Str × D)} {ks : List (D × D)} {s : String}

theorem drf_int : drf M (.int i) = (.int i) := rfl
theorem drf_str : drf M (.str x) = (.str x) := rfl
theorem drf_bl : drf M (.bl a) = (.bl a) := rfl
theorem drf_non : drf M .non = .non := rfl
theorem drf_lst : drf M (.lst xs) = (.lst xs) := rfl
theorem drf_tup : drf M (.tup xs) = (.tup xs) := rfl
theorem drf_obj : drf M (.obj n fs) = (.obj n fs) := rfl
theorem drf_dic : drf M (.dic a ks) = (.dic a ks) := rfl
theorem drf_cls : drf M (.cls n) = (.cls n) := rfl
theorem drf_exc : drf M (.exc n) = (.exc n) := rfl
theorem drf_ty : drf M (.ty s) = (.ty s) := rfl
theorem ofS_inj {s t : String} : (Str.ofString s = Str.ofString t) = (s = t) := propext ⟨fun h => by
  have e := congrArg (fun x : Str => x.cps.toList) h
  have e1 : s.toList.map Char.toNat = t.toList.map Char.toNat := (TL.tl_ofString s).symm.trans (e.trans (TL.tl_ofString t))
  have inj : ∀ {a b : List Char}, a.map Char.toNat = b.map Char.toNat → a = b := fun {a b} h => by
    induction a generalizing b with
    | nil => cases b with | nil => rfl | cons _ _ => cases h
    | cons x a ih => cases b with
      | nil => cases h
      | cons y b =>
        rw [List.map_cons, List.map_cons] at h
        injection h with h1 h2
        rw [ih h2]
        congr 1
        exact Char.ext (UInt32.toNat_inj.mp h1)
  exact String.toList_inj.mp (inj e1), fun h => by rw [h]⟩
theorem mem_ofS {s t : String} {l : List Str} : (Str.ofString s ∈ Str.ofString t :: l) = (s = t ∨ Str.ofString s ∈ l) := by rw [List.mem_cons, ofS_inj]
theorem mem_ofS0 {s : String} : (Str.ofString s ∈ ([] : List Str)) = False := by simp
theorem putD_nil {f : Str} {d : D} : putD f d [] = [(f, d)] := rfl
theorem putD_cons {f g : Str} {d x : D} {r : List (Str × D)} : putD f d ((g, x) :: r) = if g = f then (g, d) :: r else (g, x) :: putD f d r := rfl
variable {adr : Addr} {tt : Bool}
theorem drf_ref : drf M (.ref adr) = drfO adr (M adr) := rfl
theorem drfO_dic : drfO adr (some (.dic tt ks)) = .dic tt ks := rfl
theorem drfO_lst : drfO adr (some (.lst xs)) = .lst xs := rfl
theorem drfO_ins : drfO adr (some (.ins n fs)) = .obj n fs := rfl
theorem drfO_non : drfO adr none = .ref adr := rfl
theorem oLen_d : oLen [.dic tt ks] Q = Q (.int ks.length) := rfl
theorem oIn_d : oIn (.str x) (.dic tt ks) Q = (kOkB tt (.str x) = true ∧ Q (.bl (getK ks (.str x)).isSome)) := rfl
theorem oNotIn_d : oNotIn (.str x) (.dic tt ks) Q = (kOkB tt (.str x) = true ∧ Q (.bl (!(getK ks (.str x)).isSome))) := rfl
theorem oIn_dt : oIn (.tup xs) (.dic tt ks) Q = (kOkB tt (.tup xs) = true ∧ Q (.bl (getK ks (.tup xs)).isSome)) := rfl
theorem oNotIn_dt : oNotIn (.tup xs) (.dic tt ks) Q = (kOkB tt (.tup xs) = true ∧ Q (.bl (!(getK ks (.tup xs)).isSome))) := rfl
theorem kOkB_s : kOkB false (.str x) = true := rfl
theorem kOkB_i : kOkB false (.int i) = true := rfl
theorem oAdd_i : oAdd (.int i) (.int j) Q = Q (.int (i + j)) := rfl
theorem oAdd_s : oAdd (.str x) (.str y) Q = (x.length + y.length ≤ sizeLine ∧ Q (.str (x ++ y))) := rfl
theorem oAdd_t : oAdd (.tup xs) (.tup ys) Q = (xs.length + ys.length ≤ sizeLine ∧ Q (.tup (xs ++ ys))) := rfl
theorem oAdd_l : oAdd (.lst xs) (.lst ys) Q = (xs.length + ys.length ≤ sizeLine ∧ Q (.lst (xs ++ ys))) := rfl
theorem oSub_i : oSub (.int i) (.int j) Q = Q (.int (i - j)) := rfl
theorem oMul_i : oMul (.int i) (.int j) Q = (Sm i ∧ Sm j ∧ Q (.int (i * j))) := rfl
theorem oMulW_i : oMulW (.int i) (.int j) Q = (CMulW i j ∧ Q (.int (i * j))) := rfl
theorem oMulA_i : oMulA (.int i) (.int j) Q = (Sm i ∧ Sm j ∧ Q (.int (i * j))) := rfl
theorem oMulA_s : oMulA (.str x) (.int j) Q = (0 ≤ j ∧ j < 2 ^ 30 ∧ x.length * j.toNat ≤ sizeLine ∧ Q (.str (repS x j.toNat))) := rfl
theorem oFdiv_i : oFdiv (.int i) (.int j) Q = (j ≠ 0 ∧ Sm j ∧ Q (.int (i.fdiv j))) := rfl
theorem oMod_i : oMod (.int i) (.int j) Q = (j ≠ 0 ∧ Q (.int (i.fmod j))) := rfl
theorem oPow_i : oPow (.int i) (.int j) Q = (CPow i j ∧ Q (.int (i ^ j.toNat))) := rfl
theorem oLt_i : oLt (.int i) (.int j) Q = Q (.bl (decide (i < j))) := rfl
theorem oLtA_i : oLtA (.int i) (.int j) Q = Q (.bl (decide (i < j))) := rfl
theorem oLe_i : oLe (.int i) (.int j) Q = Q (.bl (decide (i ≤ j))) := rfl
theorem oGt_i : oGt (.int i) (.int j) Q = Q (.bl (decide (j < i))) := rfl
theorem oGe_i : oGe (.int i) (.int j) Q = Q (.bl (decide (j ≤ i))) := rfl
theorem oEq_i : oEq (.int i) (.int j) Q = Q (.bl (decide (i = j))) := rfl
theorem oEq_s : oEq (.str x) (.str y) Q = Q (.bl (decide (x = y))) := rfl
theorem oEq_b : oEq (.bl a) (.bl b) Q = Q (.bl (decide (a = b))) := rfl
theorem oEq_nn : oEq .non .non Q = Q (.bl (true)) := rfl
theorem oEq_ni : oEq .non (.int i) Q = Q (.bl (false)) := rfl
theorem oEq_in : oEq (.int i) .non Q = Q (.bl (false)) := rfl
theorem oEq_ns : oEq .non (.str x) Q = Q (.bl (false)) := rfl
theorem oEq_sn : oEq (.str x) .non Q = Q (.bl (false)) := rfl
theorem oNe_i : oNe (.int i) (.int j) Q = Q (.bl (!decide (i = j))) := rfl
theorem oNe_s : oNe (.str x) (.str y) Q = Q (.bl (!decide (x = y))) := rfl
theorem oNe_b : oNe (.bl a) (.bl b) Q = Q (.bl (!decide (a = b))) := rfl
theorem oNe_nn : oNe .non .non Q = Q (.bl (!true)) := rfl
theorem oNe_ni : oNe .non (.int i) Q = Q (.bl (!false)) := rfl
theorem oNe_in : oNe (.int i) .non Q = Q (.bl (!false)) := rfl
theorem oNe_ns : oNe .non (.str x) Q = Q (.bl (!false)) := rfl
theorem oNe_sn : oNe (.str x) .non Q = Q (.bl (!false)) := rfl
theorem oIsN_ {d : D} : oIsN d .non Q = Q (.bl d.isNon) := propext ⟨fun h => h.2, fun h => ⟨rfl, h⟩⟩
theorem oNotN_ {d : D} : oNotN d .non Q = Q (.bl (!d.isNon)) := propext ⟨fun h => h.2, fun h => ⟨rfl, h⟩⟩
theorem isNon_int : D.isNon (.int i) = false := rfl
theorem isNon_str : D.isNon (.str x) = false := rfl
theorem isNon_bl : D.isNon (.bl a) = false := rfl
theorem isNon_non : D.isNon .non = true := rfl
theorem isNon_lst : D.isNon (.lst xs) = false := rfl
theorem isNon_tup : D.isNon (.tup xs) = false := rfl
theorem isNon_obj : D.isNon (.obj n fs) = false := rfl
theorem isNon_exc : D.isNon (.exc n) = false := rfl
theorem isNon_dic : D.isNon (.dic a ks) = false := rfl
theorem oLen_s : oLen [.str x] Q = (x.length ≤ sizeLine ∧ Q (.int x.length)) := rfl
theorem oLen_l : oLen [.lst xs] Q = Q (.int xs.length) := rfl
theorem oLen_t : oLen [.tup xs] Q = Q (.int xs.length) := rfl
theorem oAbs_ : oAbs [.int i] Q = Q (.int (if i < 0 then -i else i)) := rfl
theorem oMax2_ : oMax2 [.int i, .int j] Q = Q (.int (if j > i then j else i)) := rfl
theorem oMin2_ : oMin2 [.int i, .int j] Q = Q (.int (if j < i then j else i)) := rfl
theorem oMinT_ : oMinT [.tup [.int i, .int j]] Q = Q (.int (if j < i then j else i)) := rfl
theorem oMaxT_ : oMaxT [.tup [.int i, .int j]] Q = Q (.int (if j > i then j else i)) := rfl
theorem oInt1_i : oInt1 [.int i] Q = Q (.int i) := rfl
theorem oInt1_b : oInt1 [.bl a] Q = Q (.int (if a then 1 else 0)) := rfl
theorem oInt1_s : oInt1 [.str x] Q = (∃ n, PySem.intText? x = some n ∧ x.length ≤ 640 ∧ Q (.int n)) := rfl
theorem oStr1_ : oStr1 [.int i] Q = (i.natAbs.log2 < 1920 ∧ Q (.str (toString i))) := rfl
theorem oTuple1_l : oTuple1 [.lst xs] Q = Q (.tup xs) := rfl
theorem oTuple1_t : oTuple1 [.tup xs] Q = Q (.tup xs) := rfl
variable {QL : List D → Prop} {QB : Bool → Prop} {PS : Str → Prop} {oi oj : Option Int}
theorem oList1_l : oList1 [.lst xs] QL = QL xs := rfl
theorem oList1_t : oList1 [.tup xs] QL = QL xs := rfl
theorem oListD_d : oListD [.dic a ks] QL = QL (ks.map (·.1)) := rfl
theorem oCat_l : oCat (.lst xs) (.lst ys) QL = (xs.length + ys.length ≤ sizeLine ∧ QL (xs ++ ys)) := rfl
theorem truD_n : truD .non QB = QB false := rfl
theorem truD_b : truD (.bl a) QB = QB a := rfl
theorem truD_i : truD (.int i) QB = QB (i != 0) := rfl
theorem truD_s : truD (.str x) QB = (x.length ≤ sizeLine ∧ QB ((x.length : Int) != 0)) := rfl
theorem truD_l : truD (.lst xs) QB = QB (!xs.isEmpty) := rfl
theorem truD_t : truD (.tup xs) QB = QB (!xs.isEmpty) := rfl
theorem onStr_s : onStr (.str x) PS = PS x := rfl
theorem soStarts_ : soStarts x [.str y] Q = (True ∧ Q (.bl (Txt.startswith x y))) := rfl
theorem soUpper_ : soUpper x [] Q = (x.length ≤ 5592405 ∧ Q (.str (Txt.upper x))) := rfl
theorem soLower_ : soLower x [] Q = (x.length ≤ 5592405 ∧ Q (.str (Txt.lower x))) := rfl
theorem soIsupper_ : soIsupper x [] Q = (True ∧ Q (.bl (Txt.isupper x))) := rfl
theorem soFind_ : soFind x [.str y] Q = (True ∧ Q (.int (Txt.find x y))) := rfl
theorem soStrip_ : soStrip x [.str y] Q = (x.length ≤ sizeLine ∧ Q (.str (Txt.stripChars x y))) := rfl
theorem soPart_ : soPart x [.str y] Q = ((y.length == 0) = false ∧ x.length ≤ sizeLine ∧ Q (.tup [.str (Txt.partition x y).1, .str (Txt.partition x y).2.1, .str (Txt.partition x y).2.2])) := rfl
theorem soSplit_ : soSplit x [.str y] Q = ((y.length == 0) = false ∧ x.length + 2 ≤ sizeLine ∧ Q (.lst ((Txt.split x y).map .str))) := rfl
theorem soJoin_l : soJoin x [.lst xs] Q = joinD x xs Q := rfl
theorem soJoin_t : soJoin x [.tup xs] Q = joinD x xs Q := rfl
theorem oSlL_l : oSlL (.lst xs) oi oj QL = QL (cutD xs oi oj) := rfl
theorem oSlS_l : oSlS (.lst xs) oi oj Q = Q (.lst (cutD xs oi oj)) := rfl
theorem oSlS_t : oSlS (.tup xs) oi oj Q = Q (.tup (cutD xs oi oj)) := rfl
theorem oSlS_s : oSlS (.str x) oi oj Q = (x.length ≤ sizeLine ∧ Q (.str (cutS x oi oj))) := rfl
theorem isi_int_int : oIsi "int" [(.int i), .ty "int"] Q = Q (.bl true) := by
  have e : isD "int" (.int i) = true := rfl
  show ("int" = "int" ∧ (tyS (.int i)).isSome = true ∧ Q (.bl (isD "int" (.int i)))) = _
  rw [e]; simp [tyS]
theorem isi_int_str : oIsi "int" [(.str x), .ty "int"] Q = Q (.bl false) := by
  have e : isD "int" (.str x) = false := rfl
  show ("int" = "int" ∧ (tyS (.str x)).isSome = true ∧ Q (.bl (isD "int" (.str x)))) = _
  rw [e]; simp [tyS]
theorem isi_int_bool : oIsi "int" [(.bl a), .ty "int"] Q = Q (.bl true) := by
  have e : isD "int" (.bl a) = true := rfl
  show ("int" = "int" ∧ (tyS (.bl a)).isSome = true ∧ Q (.bl (isD "int" (.bl a)))) = _
  rw [e]; simp [tyS]
theorem isi_int_NoneType : oIsi "int" [.non, .ty "int"] Q = Q (.bl false) := by
  have e : isD "int" .non = false := rfl
  show ("int" = "int" ∧ (tyS .non).isSome = true ∧ Q (.bl (isD "int" .non))) = _
  rw [e]; simp [tyS]
theorem isi_int_list : oIsi "int" [(.lst xs), .ty "int"] Q = Q (.bl false) := by
  have e : isD "int" (.lst xs) = false := rfl
  show ("int" = "int" ∧ (tyS (.lst xs)).isSome = true ∧ Q (.bl (isD "int" (.lst xs)))) = _
  rw [e]; simp [tyS]
theorem isi_int_tuple : oIsi "int" [(.tup xs), .ty "int"] Q = Q (.bl false) := by
  have e : isD "int" (.tup xs) = false := rfl
  show ("int" = "int" ∧ (tyS (.tup xs)).isSome = true ∧ Q (.bl (isD "int" (.tup xs)))) = _
  rw [e]; simp [tyS]
theorem isi_bool_int : oIsi "bool" [(.int i), .ty "bool"] Q = Q (.bl false) := by
  have e : isD "bool" (.int i) = false := rfl
  show ("bool" = "bool" ∧ (tyS (.int i)).isSome = true ∧ Q (.bl (isD "bool" (.int i)))) = _
  rw [e]; simp [tyS]
theorem isi_bool_str : oIsi "bool" [(.str x), .ty "bool"] Q = Q (.bl false) := by
  have e : isD "bool" (.str x) = false := rfl
  show ("bool" = "bool" ∧ (tyS (.str x)).isSome = true ∧ Q (.bl (isD "bool" (.str x)))) = _
  rw [e]; simp [tyS]
theorem isi_bool_bool : oIsi "bool" [(.bl a), .ty "bool"] Q = Q (.bl true) := by
  have e : isD "bool" (.bl a) = true := rfl
  show ("bool" = "bool" ∧ (tyS (.bl a)).isSome = true ∧ Q (.bl (isD "bool" (.bl a)))) = _
  rw [e]; simp [tyS]
theorem isi_bool_NoneType : oIsi "bool" [.non, .ty "bool"] Q = Q (.bl false) := by
  have e : isD "bool" .non = false := rfl
  show ("bool" = "bool" ∧ (tyS .non).isSome = true ∧ Q (.bl (isD "bool" .non))) = _
  rw [e]; simp [tyS]
theorem isi_bool_list : oIsi "bool" [(.lst xs), .ty "bool"] Q = Q (.bl false) := by
  have e : isD "bool" (.lst xs) = false := rfl
  show ("bool" = "bool" ∧ (tyS (.lst xs)).isSome = true ∧ Q (.bl (isD "bool" (.lst xs)))) = _
  rw [e]; simp [tyS]
theorem isi_bool_tuple : oIsi "bool" [(.tup xs), .ty "bool"] Q = Q (.bl false) := by
  have e : isD "bool" (.tup xs) = false := rfl
  show ("bool" = "bool" ∧ (tyS (.tup xs)).isSome = true ∧ Q (.bl (isD "bool" (.tup xs)))) = _
  rw [e]; simp [tyS]
theorem isi_tuple_int : oIsi "tuple" [(.int i), .ty "tuple"] Q = Q (.bl false) := by
  have e : isD "tuple" (.int i) = false := rfl
  show ("tuple" = "tuple" ∧ (tyS (.int i)).isSome = true ∧ Q (.bl (isD "tuple" (.int i)))) = _
  rw [e]; simp [tyS]
theorem isi_tuple_str : oIsi "tuple" [(.str x), .ty "tuple"] Q = Q (.bl false) := by
  have e : isD "tuple" (.str x) = false := rfl
  show ("tuple" = "tuple" ∧ (tyS (.str x)).isSome = true ∧ Q (.bl (isD "tuple" (.str x)))) = _
  rw [e]; simp [tyS]
theorem isi_tuple_bool : oIsi "tuple" [(.bl a), .ty "tuple"] Q = Q (.bl false) := by
  have e : isD "tuple" (.bl a) = false := rfl
  show ("tuple" = "tuple" ∧ (tyS (.bl a)).isSome = true ∧ Q (.bl (isD "tuple" (.bl a)))) = _
  rw [e]; simp [tyS]
theorem isi_tuple_NoneType : oIsi "tuple" [.non, .ty "tuple"] Q = Q (.bl false) := by
  have e : isD "tuple" .non = false := rfl
  show ("tuple" = "tuple" ∧ (tyS .non).isSome = true ∧ Q (.bl (isD "tuple" .non))) = _
  rw [e]; simp [tyS]
theorem isi_tuple_list : oIsi "tuple" [(.lst xs), .ty "tuple"] Q = Q (.bl false) := by
  have e : isD "tuple" (.lst xs) = false := rfl
  show ("tuple" = "tuple" ∧ (tyS (.lst xs)).isSome = true ∧ Q (.bl (isD "tuple" (.lst xs)))) = _
  rw [e]; simp [tyS]
theorem isi_tuple_tuple : oIsi "tuple" [(.tup xs), .ty "tuple"] Q = Q (.bl true) := by
  have e : isD "tuple" (.tup xs) = true := rfl
  show ("tuple" = "tuple" ∧ (tyS (.tup xs)).isSome = true ∧ Q (.bl (isD "tuple" (.tup xs)))) = _
  rw [e]; simp [tyS]
theorem isi_str_int : oIsi "str" [(.int i), .ty "str"] Q = Q (.bl false) := by
  have e : isD "str" (.int i) = false := rfl
  show ("str" = "str" ∧ (tyS (.int i)).isSome = true ∧ Q (.bl (isD "str" (.int i)))) = _
  rw [e]; simp [tyS]
theorem isi_str_str : oIsi "str" [(.str x), .ty "str"] Q = Q (.bl true) := by
  have e : isD "str" (.str x) = true := rfl
  show ("str" = "str" ∧ (tyS (.str x)).isSome = true ∧ Q (.bl (isD "str" (.str x)))) = _
  rw [e]; simp [tyS]
theorem isi_str_bool : oIsi "str" [(.bl a), .ty "str"] Q = Q (.bl false) := by
  have e : isD "str" (.bl a) = false := rfl
  show ("str" = "str" ∧ (tyS (.bl a)).isSome = true ∧ Q (.bl (isD "str" (.bl a)))) = _
  rw [e]; simp [tyS]
theorem isi_str_NoneType : oIsi "str" [.non, .ty "str"] Q = Q (.bl false) := by
  have e : isD "str" .non = false := rfl
  show ("str" = "str" ∧ (tyS .non).isSome = true ∧ Q (.bl (isD "str" .non))) = _
  rw [e]; simp [tyS]
theorem isi_str_list : oIsi "str" [(.lst xs), .ty "str"] Q = Q (.bl false) := by
  have e : isD "str" (.lst xs) = false := rfl
  show ("str" = "str" ∧ (tyS (.lst xs)).isSome = true ∧ Q (.bl (isD "str" (.lst xs)))) = _
  rw [e]; simp [tyS]
theorem isi_str_tuple : oIsi "str" [(.tup xs), .ty "str"] Q = Q (.bl false) := by
  have e : isD "str" (.tup xs) = false := rfl
  show ("str" = "str" ∧ (tyS (.tup xs)).isSome = true ∧ Q (.bl (isD "str" (.tup xs)))) = _
  rw [e]; simp [tyS]
theorem isi_list_int : oIsi "list" [(.int i), .ty "list"] Q = Q (.bl false) := by
  have e : isD "list" (.int i) = false := rfl
  show ("list" = "list" ∧ (tyS (.int i)).isSome = true ∧ Q (.bl (isD "list" (.int i)))) = _
  rw [e]; simp [tyS]
theorem isi_list_str : oIsi "list" [(.str x), .ty "list"] Q = Q (.bl false) := by
  have e : isD "list" (.str x) = false := rfl
  show ("list" = "list" ∧ (tyS (.str x)).isSome = true ∧ Q (.bl (isD "list" (.str x)))) = _
  rw [e]; simp [tyS]
theorem isi_list_bool : oIsi "list" [(.bl a), .ty "list"] Q = Q (.bl false) := by
  have e : isD "list" (.bl a) = false := rfl
  show ("list" = "list" ∧ (tyS (.bl a)).isSome = true ∧ Q (.bl (isD "list" (.bl a)))) = _
  rw [e]; simp [tyS]
theorem isi_list_NoneType : oIsi "list" [.non, .ty "list"] Q = Q (.bl false) := by
  have e : isD "list" .non = false := rfl
  show ("list" = "list" ∧ (tyS .non).isSome = true ∧ Q (.bl (isD "list" .non))) = _
  rw [e]; simp [tyS]
theorem isi_list_list : oIsi "list" [(.lst xs), .ty "list"] Q = Q (.bl true) := by
  have e : isD "list" (.lst xs) = true := rfl
  show ("list" = "list" ∧ (tyS (.lst xs)).isSome = true ∧ Q (.bl (isD "list" (.lst xs)))) = _
  rw [e]; simp [tyS]
theorem isi_list_tuple : oIsi "list" [(.tup xs), .ty "list"] Q = Q (.bl false) := by
  have e : isD "list" (.tup xs) = false := rfl
  show ("list" = "list" ∧ (tyS (.tup xs)).isSome = true ∧ Q (.bl (isD "list" (.tup xs)))) = _
  rw [e]; simp [tyS]
theorem atI_at {α : Type} {xs : List α} {i : Int} {n : Nat} {a : α} (e : i = (n : Int)) (h : xs[n]? = some a) : atI xs i = some a := by
  have hl := (List.getElem?_eq_some_iff.mp h).1
  unfold atI ixN
  subst e
  rw [if_pos (by omega), if_pos (by omega)]
  exact h
theorem ix_at {xs : List D} {i : Int} {n : Nat} {a : D} (e : i = (n : Int)) (h : xs[n]? = some a) {Q : D → Prop} : oIx (.tup xs) (.int i) Q = Q a ∧ oIx (.lst xs) (.int i) Q = Q a := by
  have h := atI_at e h
  have e : (∃ d, atI xs i = some d ∧ Q d) = Q a := by rw [h]; exact propext ⟨fun ⟨d, e, q⟩ => by cases e; exact q, fun q => ⟨a, rfl, q⟩⟩
  exact ⟨e, e⟩
theorem ix_lt {xs : List D} {i : Int} (h0 : 0 ≤ i) (h1 : i < xs.length) : oIx (.lst xs) (.int i) Q = Q (xs.getD i.toNat .non) ∧ oIx (.tup xs) (.int i) Q = Q (xs.getD i.toNat .non) := by
  have h : xs[i.toNat]? = some (xs.getD i.toNat .non) := by rw [List.getD_eq_getElem?_getD, List.getElem?_eq_getElem (by omega)]; rfl
  have := ix_at (Q := Q) (show i = (i.toNat : Int) by omega) h
  exact ⟨this.2, this.1⟩
variable {d0 d1 d2 d3 d4 d5 : D}
theorem oIx_t0 : oIx (.tup (d0 :: xs)) (.int 0) Q = Q d0 := (ix_at (n := 0) rfl rfl).1
theorem oIx_l0 : oIx (.lst (d0 :: xs)) (.int 0) Q = Q d0 := (ix_at (n := 0) rfl rfl).2
theorem oIx_t1 : oIx (.tup (d0 :: d1 :: xs)) (.int 1) Q = Q d1 := (ix_at (n := 1) rfl rfl).1
theorem oIx_l1 : oIx (.lst (d0 :: d1 :: xs)) (.int 1) Q = Q d1 := (ix_at (n := 1) rfl rfl).2
theorem oIx_t2 : oIx (.tup (d0 :: d1 :: d2 :: xs)) (.int 2) Q = Q d2 := (ix_at (n := 2) rfl rfl).1
theorem oIx_l2 : oIx (.lst (d0 :: d1 :: d2 :: xs)) (.int 2) Q = Q d2 := (ix_at (n := 2) rfl rfl).2
theorem oIx_t3 : oIx (.tup (d0 :: d1 :: d2 :: d3 :: xs)) (.int 3) Q = Q d3 := (ix_at (n := 3) rfl rfl).1
theorem oIx_l3 : oIx (.lst (d0 :: d1 :: d2 :: d3 :: xs)) (.int 3) Q = Q d3 := (ix_at (n := 3) rfl rfl).2
theorem oIx_t4 : oIx (.tup (d0 :: d1 :: d2 :: d3 :: d4 :: xs)) (.int 4) Q = Q d4 := (ix_at (n := 4) rfl rfl).1
theorem oIx_l4 : oIx (.lst (d0 :: d1 :: d2 :: d3 :: d4 :: xs)) (.int 4) Q = Q d4 := (ix_at (n := 4) rfl rfl).2
theorem oIx_t5 : oIx (.tup (d0 :: d1 :: d2 :: d3 :: d4 :: d5 :: xs)) (.int 5) Q = Q d5 := (ix_at (n := 5) rfl rfl).1
theorem oIx_l5 : oIx (.lst (d0 :: d1 :: d2 :: d3 :: d4 :: d5 :: xs)) (.int 5) Q = Q d5 := (ix_at (n := 5) rfl rfl).2

theorem oIx_f0 {p : Rat} : oIx (fD p) (.int 0) Q = Q (.int p.num) := oIx_t0
theorem oIx_f1 {p : Rat} : oIx (fD p) (.int 1) Q = Q (.int p.den) := oIx_t1
theorem drf_fD {p : Rat} : drf M (fD p) = fD p := rfl
theorem oLen_f {p : Rat} : oLen [fD p] Q = Q (.int 2) := rfl
theorem isi_tuple_f {p : Rat} : oIsi "tuple" [fD p, .ty "tuple"] Q = Q (.bl true) := isi_tuple_tuple
theorem isi_int_f {p : Rat} : oIsi "int" [fD p, .ty "int"] Q = Q (.bl false) := isi_int_tuple
theorem eq_fD {p q : Rat} : oEq (fD p) (fD q) Q = Q (.bl (decide (p = q))) := by
  have e : PyData.eqv (fD p).py (fD q).py = decide (p = q) := by
    show (p.num == q.num && ((p.den : Int) == q.den && true)) = decide (p = q)
    rw [Bool.and_true, Bool.eq_iff_iff]
    simp only [Bool.and_eq_true, beq_iff_eq, decide_eq_true_eq]
    constructor
    · rintro ⟨h1, h2⟩; exact Rat.ext h1 (by omega)
    · rintro rfl; exact ⟨rfl, rfl⟩
  show (shp (fD p).py = true ∧ shp (fD q).py = true ∧ Q (.bl (PyData.eqv (fD p).py (fD q).py))) = _
  rw [e, show shp (fD p).py = true from rfl, show shp (fD q).py = true from rfl]
  simp
theorem ne_fD {p q : Rat} : oNe (fD p) (fD q) Q = Q (.bl (!decide (p = q))) := eq_fD (Q := fun d => match d with | .bl b => Q (.bl (!b)) | d => Q d)
end
theorem getD_map_int (xs : List Int) (n : Nat) (h : n < xs.length) : (xs.map D.int).getD n .non = .int (xs.getD n 0) := by
  simp [List.getD_eq_getElem?_getD, h]
theorem sp2i {P : Int → Int → Prop} {ds : List D} (h : match ds with | [.int a, .int b] => P a b | _ => False) : ∃ a b, ds = [.int a, .int b] ∧ P a b := by
  split at h
  · exact ⟨_, _, rfl, h⟩
  · exact h.elim
end Z

namespace Z
open PySem L2
local macro_rules | `(tactic| simp! [$xs,*]) => `(tactic| simp only [$xs,*, ↓dSeq, ↓dAsg, ↓dOp, ↓dVar, ↓dVarR, ↓dC, ↓dCall, ↓dCons, ↓dNil, ↓dIf, ↓dRet, ↓dRetN, ↓dTup, ↓dTst, ↓dNeg, ↓dNext, ↓dCB, ↓dLstOf, ↓dLst, ↓dCat, ↓dSlL, ↓dSlS, ↓dONone, ↓dOSome, ↓dList1, ↓dChain, ↓dChain3, ↓dAndT, ↓dOrT, ↓dNotT, ↓dAndV, ↓dOrV, ↓dNotV, ↓dIfE, ↓dTru, ↓dOwn, ↓dAsgG, ↓dPar, ↓dDrop, ↓dAugI, ↓dBreak, ↓dCont, ↓dgName, ↓dgNil, ↓dgCons, ↓dgTup, ↓dFrz, ↓frzE, ↓dItA, ↓dItB, ↓dRng1, ↓dRng2, ↓dEnum, ↓dFor, ↓dSM, ↓dSM0, ↓dRepN, ↓dLc, ↓dYes, ↓wipeE, ↓dStore, ↓dLmut, ↓lmPre, ↓lmAt, ↓isLst, ↓kNx, ↓kSet, ↓lmAppend, ↓lmExtend, ↓lmPop, ↓lmPopAt, ↓lmClear, ↓lmInsert, ↓lmSet, ↓dAugL, ↓dAugS, ↓lmAugS, ↓dMake, ↓dMake0, ↓dMeth, ↓dFld, ↓dSetF, ↓dTry, ↓dTryM, ↓exM, ↓dRaise, ↓endsOf, ↓startE, ↓entOf, ↓ga, ↓pur, ↓dDnew, ↓dDput, ↓dDget, ↓dDsetd, ↓dLmX, ↓dFrzM, ↓dZip, ↓dZipM, ↓dListRev, ↓oListRev, ↓dOrG, ↓dLstM, ↓onDic, ↓onDicR, ↓onLst, ↓obD, ↓dVarP, ↓dItC, ↓onIns, ↓endsW, ↓dLidx, ↓isLD, ↓oIdx, ↓dTake, ↓dLendT, ↓dLendE, ↓lendE, ↓lend1, ↓dFzv, ↓fzv, ↓dStoreX, ↓dLidxD, ↓dGive, ↓dZip3, ↓dListD, ↓drf_int, ↓drf_str, ↓drf_bl, ↓drf_non, ↓drf_lst, ↓drf_tup, ↓drf_obj, ↓drf_dic, ↓drf_cls, ↓drf_exc, ↓drf_ty, ↓drf_ref, ↓drfO_dic, ↓drfO_lst, ↓drfO_ins, ↓drfO_non, ↓oLen_d, ↓oIn_d, ↓oNotIn_d, ↓oIn_dt, ↓oNotIn_dt, ↓kOkB_s, ↓kOkB_i, ↓oAdd_i, ↓oAdd_s, ↓oAdd_t, ↓oAdd_l, ↓oSub_i, ↓oMul_i, ↓oMulW_i, ↓oMulA_i, ↓oMulA_s, ↓oFdiv_i, ↓oMod_i, ↓oPow_i, ↓oLt_i, ↓oLtA_i, ↓oLe_i, ↓oGt_i, ↓oGe_i, ↓oEq_i, ↓oEq_s, ↓oEq_b, ↓oEq_nn, ↓oEq_ni, ↓oEq_in, ↓oEq_ns, ↓oEq_sn, ↓oNe_i, ↓oNe_s, ↓oNe_b, ↓oNe_nn, ↓oNe_ni, ↓oNe_in, ↓oNe_ns, ↓oNe_sn, ↓oIsN_, ↓oNotN_, ↓isNon_int, ↓isNon_str, ↓isNon_bl, ↓isNon_non, ↓isNon_lst, ↓isNon_tup, ↓isNon_obj, ↓isNon_exc, ↓isNon_dic, ↓oLen_s, ↓oLen_l, ↓oLen_t, ↓oAbs_, ↓oMax2_, ↓oMin2_, ↓oMinT_, ↓oMaxT_, ↓oInt1_i, ↓oInt1_b, ↓oInt1_s, ↓oStr1_, ↓oTuple1_l, ↓oTuple1_t, ↓oList1_l, ↓oList1_t, ↓oListD_d, ↓oCat_l, ↓truD_n, ↓truD_b, ↓truD_i, ↓truD_s, ↓truD_l, ↓truD_t, ↓onStr_s, ↓soStarts_, ↓soUpper_, ↓soLower_, ↓soIsupper_, ↓soFind_, ↓soStrip_, ↓soPart_, ↓soSplit_, ↓soJoin_l, ↓soJoin_t, ↓oSlL_l, ↓oSlS_l, ↓oSlS_t, ↓oSlS_s, ↓isi_int_int, ↓isi_int_str, ↓isi_int_bool, ↓isi_int_NoneType, ↓isi_int_list, ↓isi_int_tuple, ↓isi_bool_int, ↓isi_bool_str, ↓isi_bool_bool, ↓isi_bool_NoneType, ↓isi_bool_list, ↓isi_bool_tuple, ↓isi_tuple_int, ↓isi_tuple_str, ↓isi_tuple_bool, ↓isi_tuple_NoneType, ↓isi_tuple_list, ↓isi_tuple_tuple, ↓isi_str_int, ↓isi_str_str, ↓isi_str_bool, ↓isi_str_NoneType, ↓isi_str_list, ↓isi_str_tuple, ↓isi_list_int, ↓isi_list_str, ↓isi_list_bool, ↓isi_list_NoneType, ↓isi_list_list, ↓isi_list_tuple, ↓oIx_t0, ↓oIx_l0, ↓oIx_t1, ↓oIx_l1, ↓oIx_t2, ↓oIx_l2, ↓oIx_t3, ↓oIx_l3, ↓oIx_t4, ↓oIx_l4, ↓oIx_t5, ↓oIx_l5, ↓oIx_f0, ↓oIx_f1, ↓drf_fD, ↓oLen_f, ↓isi_tuple_f, ↓isi_int_f, ↓eq_fD, ↓ne_fD, ofS_inj, mem_ofS, mem_ofS0, putD_nil, putD_cons, updM_same, String.reduceEq, Nat.reduceLT, true_or, or_true, false_or, or_false, true_and, and_true, false_and, and_false, List.set_cons_zero, List.set_cons_succ, List.map_cons, List.map_nil, if_true, if_false, Bool.false_eq_true, decide_eq_true_eq, List.length_cons, List.length_nil, Int.reduceNe, Int.reduceLT, Int.reduceLE, Int.reduceEq, Int.reduceToNat, Int.reducePow, Int.reduceNeg, Int.reduceAdd, Int.reduceMul, Int.reduceSub, Nat.reduceAdd, Nat.reduceLeDiff, Nat.reduceEqDiff, Int.cast_ofNat_Int, Bool.true_eq_false, ite_not, sizeLine_eq, true_and, and_true, and_self, Int.fmod_eq_emod_of_nonneg, Int.fdiv_eq_ediv_of_nonneg, Bool.not_true, Bool.not_false, Bool.not_eq_true', decide_eq_false_iff_not, decide_true, decide_false])
def t_l_at : DTS :=
 (dSeq (dIf (dTst (dOp oLt (dVarR 1) (dCB oLen (dCons (dVarR 0) dNil)))) (dRet (dOp oIx (dVarR 0) (dVarR 1))) dNext)
 (dRet (dC (.int 0))))

/-! ### loops and comprehensions at work -/
section
variable {G : DTG} {U : DTT} {T : DTE} {ws : List Nat} {xs : List D} {ρ : List Ent} {M : Mu} {Q : List D → Mu → Prop}
/-- every item gives one: what holds of each -/
theorem lc_all (P : Nat → D → Prop) (hl : xs.length ≤ 1000000) (h : ∀ i x, xs[i]? = some x → ∀ (K : D → Mu → Prop) (N : Mu → Prop), (∀ d, P i d → K d M) → G x (wipeE ρ ws) fun ρ2 => U ρ2 M (fun b M2 => if b = true then T ρ2 M2 K (fun _ _ => False) else N M2) (fun _ _ => False))
    (hq : ∀ acc : List D, acc.length = xs.length → (∀ (i : Nat) d, acc[i]? = some d → P i d) → Q acc M) : dLcI G U T ws xs ρ M Q := by
  refine ⟨fun i acc M' => acc.length = i ∧ (∀ (j : Nat) d, acc[j]? = some d → P j d) ∧ M' = M, ⟨rfl, fun j d e => by simp at e, rfl⟩, ?_, ?_⟩
  · rintro i x hx acc M' ⟨h1, h2, rfl⟩
    have hi := (List.getElem?_eq_some_iff.mp hx).1
    refine ⟨by rw [sizeLine_eq]; omega, h i x hx _ _ fun d hd => ⟨by simp [h1], fun j d' e => ?_, rfl⟩⟩
    by_cases z : j < acc.length
    · rw [List.getElem?_append_left z] at e; exact h2 j d' e
    · have hj := (List.getElem?_eq_some_iff.mp e).1
      simp at hj
      have ej : j = acc.length := by omega
      subst ej
      rw [List.getElem?_append_right (Nat.le_refl _)] at e
      simp at e
      subst e
      rw [h1]; exact hd
  · rintro acc M' ⟨h1, h2, rfl⟩
    exact hq acc h1 h2
/-- every item gives one: f of it -/
theorem lc_map (f : D → D) (hl : xs.length ≤ 1000000) (h : ∀ x ∈ xs, ∀ (K : D → Mu → Prop) (N : Mu → Prop), K (f x) M → G x (wipeE ρ ws) fun ρ2 => U ρ2 M (fun b M2 => if b = true then T ρ2 M2 K (fun _ _ => False) else N M2) (fun _ _ => False))
    (hq : Q (xs.map f) M) : dLcI G U T ws xs ρ M Q := by
  refine lc_all (fun i d => ∃ x, xs[i]? = some x ∧ d = f x) hl (fun i x hx K N hk => h x (List.mem_of_getElem? hx) K N (hk _ ⟨x, hx, rfl⟩)) fun acc h1 h2 => ?_
  have e : acc = xs.map f := by
    refine List.ext_getElem? fun i => ?_
    rw [List.getElem?_map]
    cases z : acc[i]? with
    | none =>
      have := List.getElem?_eq_none_iff.mp z
      rw [List.getElem?_eq_none (by omega)]; rfl
    | some d =>
      obtain ⟨x, e1, e2⟩ := h2 i d z
      rw [e1, e2]; rfl
  rw [e]; exact hq
/-- the items that pass a test, f of each -/
theorem lc_filter (c : D → Bool) (f : D → D) (hl : xs.length ≤ 1000000) (h : ∀ x ∈ xs, ∀ (K : D → Mu → Prop) (N : Mu → Prop), (c x = true → K (f x) M) → (c x = false → N M) → G x (wipeE ρ ws) fun ρ2 => U ρ2 M (fun b M2 => if b = true then T ρ2 M2 K (fun _ _ => False) else N M2) (fun _ _ => False))
    (hq : Q ((xs.filter c).map f) M) : dLcI G U T ws xs ρ M Q := by
  refine ⟨fun i acc M' => acc = ((xs.take i).filter c).map f ∧ M' = M, ⟨by simp, rfl⟩, ?_, ?_⟩
  · rintro i x hx acc M' ⟨rfl, rfl⟩
    have hi := (List.getElem?_eq_some_iff.mp hx).1
    refine ⟨?_, h x (List.mem_of_getElem? hx) _ _ (fun e => ⟨?_, rfl⟩) fun e => ⟨?_, rfl⟩⟩
    · have := List.length_filter_le c (xs.take i)
      simp only [List.length_map, List.length_take] at this ⊢
      rw [sizeLine_eq]; omega
    · rw [List.take_add_one, hx]; simp [List.filter_append, e]
    · rw [List.take_add_one, hx]; simp [List.filter_append, e]
  · rintro acc M' ⟨rfl, rfl⟩
    rw [List.take_length]; exact hq
end
/-- the script's cells -/
def sp_l_at : SpD := fun ds Q _ => match ds with | [.lst xs, .int k] => ∃ ns : List Int, xs = ns.map .int ∧ 0 ≤ k ∧ Q (.int (ns.getD k.toNat 0)) | _ => False
theorem map_int_inj : ∀ {a b : List Int}, a.map D.int = b.map D.int → a = b
  | [], [], _ => rfl
  | [], _ :: _, h => by cases h
  | _ :: _, [], h => by cases h
  | x :: a, y :: b, h => by
    injection h with h1 h2
    injection h1 with h1
    rw [h1, map_int_inj h2]
theorem e_l_at {ns : List Int} {k : Int} {Q : D → Prop} {E : Str → Prop} : sp_l_at [.lst (ns.map .int), .int k] Q E = (0 ≤ k ∧ Q (.int (ns.getD k.toNat 0))) :=
  propext ⟨fun ⟨n2, e, h⟩ => by cases map_int_inj e; exact h, fun h => ⟨ns, rfl, h⟩⟩
theorem r_l_at (ds M Q E) (h : pur sp_l_at ds M Q E) : t_l_at (endsOf Q E) (startE [false, false] 2 ds) M := by
  unfold pur sp_l_at at h
  dsimp only at h
  split at h
  · obtain ⟨ns, rfl, h0, h⟩ := h
    rename_i k
    simp! [t_l_at, List.length_map]
    by_cases hk : k < (ns.length : Int)
    · rw [if_pos hk, (ix_lt h0 (by rw [List.length_map]; exact hk)).1, getD_map_int _ _ (by omega)]
      exact h
    · rw [if_neg hk]
      have e : ns.getD k.toNat 0 = 0 := by rw [List.getD_eq_getElem?_getD, List.getElem?_eq_none (by omega)]; rfl
      rw [e] at h; exact h
  · exact h.elim

end Z

namespace Z
open PySem L2
local macro_rules | `(tactic| simp! [$xs,*]) => `(tactic| simp only [$xs,*, ↓dSeq, ↓dAsg, ↓dOp, ↓dVar, ↓dVarR, ↓dC, ↓dCall, ↓dCons, ↓dNil, ↓dIf, ↓dRet, ↓dRetN, ↓dTup, ↓dTst, ↓dNeg, ↓dNext, ↓dCB, ↓dLstOf, ↓dLst, ↓dCat, ↓dSlL, ↓dSlS, ↓dONone, ↓dOSome, ↓dList1, ↓dChain, ↓dChain3, ↓dAndT, ↓dOrT, ↓dNotT, ↓dAndV, ↓dOrV, ↓dNotV, ↓dIfE, ↓dTru, ↓dOwn, ↓dAsgG, ↓dPar, ↓dDrop, ↓dAugI, ↓dBreak, ↓dCont, ↓dgName, ↓dgNil, ↓dgCons, ↓dgTup, ↓dFrz, ↓frzE, ↓dItA, ↓dItB, ↓dRng1, ↓dRng2, ↓dEnum, ↓dFor, ↓dSM, ↓dSM0, ↓dRepN, ↓dLc, ↓dYes, ↓wipeE, ↓dStore, ↓dLmut, ↓lmPre, ↓lmAt, ↓isLst, ↓kNx, ↓kSet, ↓lmAppend, ↓lmExtend, ↓lmPop, ↓lmPopAt, ↓lmClear, ↓lmInsert, ↓lmSet, ↓dAugL, ↓dAugS, ↓lmAugS, ↓dMake, ↓dMake0, ↓dMeth, ↓dFld, ↓dSetF, ↓dTry, ↓dTryM, ↓exM, ↓dRaise, ↓endsOf, ↓startE, ↓entOf, ↓ga, ↓pur, ↓dDnew, ↓dDput, ↓dDget, ↓dDsetd, ↓dLmX, ↓dFrzM, ↓dZip, ↓dZipM, ↓dListRev, ↓oListRev, ↓dOrG, ↓dLstM, ↓onDic, ↓onDicR, ↓onLst, ↓obD, ↓dVarP, ↓dItC, ↓onIns, ↓endsW, ↓dLidx, ↓isLD, ↓oIdx, ↓dTake, ↓dLendT, ↓dLendE, ↓lendE, ↓lend1, ↓dFzv, ↓fzv, ↓dStoreX, ↓dLidxD, ↓dGive, ↓dZip3, ↓dListD, ↓drf_int, ↓drf_str, ↓drf_bl, ↓drf_non, ↓drf_lst, ↓drf_tup, ↓drf_obj, ↓drf_dic, ↓drf_cls, ↓drf_exc, ↓drf_ty, ↓drf_ref, ↓drfO_dic, ↓drfO_lst, ↓drfO_ins, ↓drfO_non, ↓oLen_d, ↓oIn_d, ↓oNotIn_d, ↓oIn_dt, ↓oNotIn_dt, ↓kOkB_s, ↓kOkB_i, ↓oAdd_i, ↓oAdd_s, ↓oAdd_t, ↓oAdd_l, ↓oSub_i, ↓oMul_i, ↓oMulW_i, ↓oMulA_i, ↓oMulA_s, ↓oFdiv_i, ↓oMod_i, ↓oPow_i, ↓oLt_i, ↓oLtA_i, ↓oLe_i, ↓oGt_i, ↓oGe_i, ↓oEq_i, ↓oEq_s, ↓oEq_b, ↓oEq_nn, ↓oEq_ni, ↓oEq_in, ↓oEq_ns, ↓oEq_sn, ↓oNe_i, ↓oNe_s, ↓oNe_b, ↓oNe_nn, ↓oNe_ni, ↓oNe_in, ↓oNe_ns, ↓oNe_sn, ↓oIsN_, ↓oNotN_, ↓isNon_int, ↓isNon_str, ↓isNon_bl, ↓isNon_non, ↓isNon_lst, ↓isNon_tup, ↓isNon_obj, ↓isNon_exc, ↓isNon_dic, ↓oLen_s, ↓oLen_l, ↓oLen_t, ↓oAbs_, ↓oMax2_, ↓oMin2_, ↓oMinT_, ↓oMaxT_, ↓oInt1_i, ↓oInt1_b, ↓oInt1_s, ↓oStr1_, ↓oTuple1_l, ↓oTuple1_t, ↓oList1_l, ↓oList1_t, ↓oListD_d, ↓oCat_l, ↓truD_n, ↓truD_b, ↓truD_i, ↓truD_s, ↓truD_l, ↓truD_t, ↓onStr_s, ↓soStarts_, ↓soUpper_, ↓soLower_, ↓soIsupper_, ↓soFind_, ↓soStrip_, ↓soPart_, ↓soSplit_, ↓soJoin_l, ↓soJoin_t, ↓oSlL_l, ↓oSlS_l, ↓oSlS_t, ↓oSlS_s, ↓isi_int_int, ↓isi_int_str, ↓isi_int_bool, ↓isi_int_NoneType, ↓isi_int_list, ↓isi_int_tuple, ↓isi_bool_int, ↓isi_bool_str, ↓isi_bool_bool, ↓isi_bool_NoneType, ↓isi_bool_list, ↓isi_bool_tuple, ↓isi_tuple_int, ↓isi_tuple_str, ↓isi_tuple_bool, ↓isi_tuple_NoneType, ↓isi_tuple_list, ↓isi_tuple_tuple, ↓isi_str_int, ↓isi_str_str, ↓isi_str_bool, ↓isi_str_NoneType, ↓isi_str_list, ↓isi_str_tuple, ↓isi_list_int, ↓isi_list_str, ↓isi_list_bool, ↓isi_list_NoneType, ↓isi_list_list, ↓isi_list_tuple, ↓oIx_t0, ↓oIx_l0, ↓oIx_t1, ↓oIx_l1, ↓oIx_t2, ↓oIx_l2, ↓oIx_t3, ↓oIx_l3, ↓oIx_t4, ↓oIx_l4, ↓oIx_t5, ↓oIx_l5, ↓oIx_f0, ↓oIx_f1, ↓drf_fD, ↓oLen_f, ↓isi_tuple_f, ↓isi_int_f, ↓eq_fD, ↓ne_fD, ofS_inj, mem_ofS, mem_ofS0, putD_nil, putD_cons, updM_same, String.reduceEq, Nat.reduceLT, true_or, or_true, false_or, or_false, true_and, and_true, false_and, and_false, List.set_cons_zero, List.set_cons_succ, List.map_cons, List.map_nil, if_true, if_false, Bool.false_eq_true, decide_eq_true_eq, List.length_cons, List.length_nil, Int.reduceNe, Int.reduceLT, Int.reduceLE, Int.reduceEq, Int.reduceToNat, Int.reducePow, Int.reduceNeg, Int.reduceAdd, Int.reduceMul, Int.reduceSub, Nat.reduceAdd, Nat.reduceLeDiff, Nat.reduceEqDiff, Int.cast_ofNat_Int, Bool.true_eq_false, ite_not, sizeLine_eq, true_and, and_true, and_self, Int.fmod_eq_emod_of_nonneg, Int.fdiv_eq_ediv_of_nonneg, Bool.not_true, Bool.not_false, Bool.not_eq_true', decide_eq_false_iff_not, decide_true, decide_false])
def t_common_divisor : DTS :=
 (dSeq (dAsg 0 (dCB oAbs (dCons (dVarR 0) dNil)))
 (dSeq (dAsg 1 (dCB oAbs (dCons (dVarR 1) dNil)))
 (dSeq (dWhile (dTst (dOp oNe (dVarR 1) (dC (.int 0)))) (dSeq (dAsg 2 (dOp oMod (dVarR 0) (dVarR 1)))
 (dSeq (dAsg 0 (dVar 1))
 (dAsg 1 (dVar 2)))))
 (dRet (dVar 0)))))

def t_fraction (p_common_divisor : SpM) : DTS :=
 (dSeq (dAsg 2 (dCall p_common_divisor (dCons (dVar 0) (dCons (dVar 1) dNil))))
 (dSeq (dIf (dTst (dOp oLt (dVarR 1) (dC (.int 0)))) (dAsg 2 (dNeg (dVarR 2))) dNext)
 (dRet (dTup (dCons (dOp oFdiv (dVarR 0) (dVarR 2)) (dCons (dOp oFdiv (dVarR 1) (dVarR 2)) dNil))))))

def t_l_mix : DTS :=
 (dSeq (dAsg 2 (dOp oIx (dLstOf (dLst (dCons (dC (.int 48271)) (dCons (dC (.int 69621)) (dCons (dC (.int 16807)) (dCons (dC (.int 40692)) (dCons (dC (.int 30269)) (dCons (dC (.int 62089)) (dCons (dC (.int 45991)) dNil))))))))) (dOp oMod (dVarR 1) (dC (.int 7)))))
 (dSeq (dAsg 3 (dOp oMod (dOp oMulA (dOp oAdd (dOp oAdd (dOp oMod (dVarR 0) (dC (.int 2147483647))) (dOp oMulA (dOp oMulA (dC (.int 97)) (dVarR 1)) (dVarR 1))) (dC (.int 11))) (dVarR 2)) (dC (.int 2147483629))))
 (dRet (dOp oMod (dOp oMulA (dVarR 3) (dVarR 3)) (dC (.int 1999999973))))))

def t_l_lowest : DTS :=
 (dSeq (dAsg 2 (dCB oAbs (dCons (dVarR 0) dNil)))
 (dSeq (dAsg 3 (dVar 1))
 (dSeq (dWhile (dTst (dOp oGt (dVarR 3) (dC (.int 0)))) (dSeq (dAsg 4 (dOp oMod (dVarR 2) (dVarR 3)))
 (dSeq (dAsg 2 (dVar 3))
 (dAsg 3 (dVar 4)))))
 (dRet (dTup (dCons (dOp oFdiv (dVarR 0) (dVarR 2)) (dCons (dOp oFdiv (dVarR 1) (dVarR 2)) dNil)))))))



def sp_common_divisor : SpD := fun ds Q _ => match ds with | [.int a, .int b] => Q (.int (Int.gcd a b)) | _ => False
def sp_fraction : SpD := fun ds Q _ => match ds with | [.int a, .int b] => b ≠ 0 ∧ Sm b ∧ Q (fD (Rat.divInt a b)) | _ => False
theorem r_common_divisor (ds M Q E) (h : pur sp_common_divisor ds M Q E) : t_common_divisor (endsOf Q E) (startE [false, false] 3 ds) M := by
  obtain ⟨a, b, rfl, h⟩ := sp2i h
  simp! [t_common_divisor]
  refine ⟨fun n ρ M' => ∃ (x y : Nat) (r : Ent), ρ = [.dat (.int x), .dat (.int y), r] ∧ y = n ∧ Nat.gcd x y = Int.gcd a b ∧ M' = M, ⟨b.natAbs, a.natAbs, b.natAbs, .un, ?_, rfl, rfl, rfl⟩, ?_⟩
  · have e1 : (if a < 0 then -a else a) = (a.natAbs : Int) := by split <;> omega
    have e2 : (if b < 0 then -b else b) = (b.natAbs : Int) := by split <;> omega
    rw [e1, e2]
  · rintro n ρ M' ⟨x, y, r, rfl, rfl, hg, rfl⟩
    simp! [dWhile]
    by_cases hy : y = 0
    · subst hy
      simp at hg ⊢
      rw [hg]; exact h
    · rw [if_neg (by omega)]
      refine ⟨by omega, x % y, Nat.mod_lt _ (by omega), y, x % y, .dat (.int ((x : Int).fmod y)), ?_, rfl, ?_⟩
      · have : (x : Int).fmod y = ((x % y : Nat) : Int) := by rw [Int.fmod_eq_emod_of_nonneg _ (by omega)]; rfl
        rw [this]
      · rw [gcd_emod]; exact hg
theorem r_fraction (ds M Q E) (h : pur sp_fraction ds M Q E) : t_fraction (pur sp_common_divisor) (endsOf Q E) (startE [false, false] 3 ds) M := by
  obtain ⟨a, b, rfl, h1, h2, h3⟩ := sp2i h
  have h4 := frac_fdiv (a := a) h1
  have h5 := Sm.gcd (a := a) h1 h2
  have hz : 2 ≤ sizeLine := by decide
  simp! [t_fraction, sp_common_divisor]
  by_cases hb : b < 0
  · rw [if_pos hb]
    simp only [if_pos hb] at h4 h5
    exact ⟨h4.1, h5, h4.1, h5, by rw [h4.2.1, h4.2.2]; exact h3⟩
  · rw [if_neg hb]
    simp only [if_neg hb] at h4 h5
    exact ⟨h4.1, h5, h4.1, h5, by rw [h4.2.1, h4.2.2]; exact h3⟩

/-! ### the law's own -/
def mixF (k : Int) : Int := [48271, 69621, 16807, 40692, 30269, 62089, 45991].getD (k % 7).toNat 0
def mixN (c k : Int) : Int := (c % 2147483647 + 97 * k * k + 11) * mixF k % 2147483629
def mix (c k : Int) : Int := mixN c k * mixN c k % 1999999973
theorem mix_lo (c k : Int) : 0 ≤ mix c k := Int.emod_nonneg _ (by decide)
theorem mix_hi (c k : Int) : mix c k < 1999999973 := Int.emod_lt_of_pos _ (by decide)
theorem mixF_lo (k : Int) : 0 ≤ mixF k ∧ mixF k < 100000 := by
  have h0 := Int.emod_nonneg k (show (7 : Int) ≠ 0 by decide)
  have h1 := Int.emod_lt_of_pos k (show (0 : Int) < 7 by decide)
  unfold mixF
  obtain ⟨n, hn⟩ := Int.eq_ofNat_of_zero_le h0
  rw [hn] at h1 ⊢
  have : n = 0 ∨ n = 1 ∨ n = 2 ∨ n = 3 ∨ n = 4 ∨ n = 5 ∨ n = 6 := by omega
  rcases this with rfl | rfl | rfl | rfl | rfl | rfl | rfl <;> decide
/-- small numbers -/
def kOk (k : Int) : Prop := 0 ≤ k ∧ k < 1000000
def sp_l_mix : SpD := fun ds Q _ => match ds with | [.int c, .int k] => kOk k ∧ Q (.int (mix c k)) | _ => False
theorem r_l_mix (ds M Q E) (h : pur sp_l_mix ds M Q E) : t_l_mix (endsOf Q E) (startE [false, false] 4 ds) M := by
  obtain ⟨c, k, rfl, hk, h⟩ := sp2i h
  have h0 := Int.emod_nonneg k (show (7 : Int) ≠ 0 by decide)
  have h1 := Int.emod_lt_of_pos k (show (0 : Int) < 7 by decide)
  simp! [t_l_mix, dLstOf, dLst]
  rw [(ix_lt h0 (by simp; omega)).1]
  have e := getD_map_int [48271, 69621, 16807, 40692, 30269, 62089, 45991] (k % 7).toNat (by simp; omega)
  simp only [List.map_cons, List.map_nil] at e
  rw [e]
  simp! [dSeq]
  obtain ⟨k0, k1⟩ := hk
  have hkk : 0 ≤ 97 * k * k ∧ 97 * k * k < 97000000000000 := by
    have h1 := mul_bd k0 (show k ≤ 999999 by omega) k0 (show k ≤ 999999 by omega)
    have e : 97 * k * k = 97 * (k * k) := by rw [Int.mul_assoc]
    omega
  have hc := Int.emod_nonneg c (show (2147483647 : Int) ≠ 0 by decide)
  have hc2 := Int.emod_lt_of_pos c (show (0 : Int) < 2147483647 by decide)
  have hF := mixF_lo k
  have eF : [48271, 69621, 16807, 40692, 30269, 62089, 45991].getD (k % 7).toNat 0 = mixF k := rfl
  rw [eF]
  have eN : (c % 2147483647 + 97 * k * k + 11) * mixF k % 2147483629 = mixN c k := rfl
  rw [eN]
  have hN := Int.emod_nonneg ((c % 2147483647 + 97 * k * k + 11) * mixF k) (show (2147483629 : Int) ≠ 0 by decide)
  have hN2 := Int.emod_lt_of_pos ((c % 2147483647 + 97 * k * k + 11) * mixF k) (show (0 : Int) < 2147483629 by decide)
  rw [eN] at hN hN2
  exact ⟨sm_lit (by omega) (by omega), sm_lit (by omega) (by omega), sm_lit (by omega) (by omega), sm_lit (by omega) (by omega), sm_lit (by omega) (by omega), sm_lit (by omega) (by omega), sm_lit (by omega) (by omega), sm_lit (by omega) (by omega), h⟩
def sp_l_lowest : SpD := fun ds Q _ => match ds with | [.int a, .int b] => 0 < b ∧ Sm b ∧ Q (fD (Rat.divInt a b)) | _ => False
theorem r_l_lowest (ds M Q E) (h : pur sp_l_lowest ds M Q E) : t_l_lowest (endsOf Q E) (startE [false, false] 5 ds) M := by
  obtain ⟨a, b, rfl, hb, hs, h⟩ := sp2i h
  have h4 := frac_fdiv (a := a) (b := b) (by omega)
  have h5 := Sm.gcd (a := a) (b := b) (by omega) hs
  simp only [if_neg (show ¬ b < 0 by omega)] at h4 h5
  simp! [t_l_lowest]
  refine ⟨fun n ρ M' => ∃ (x y : Nat) (r : Ent), ρ = [.dat (.int a), .dat (.int b), .dat (.int x), .dat (.int y), r] ∧ y = n ∧ Nat.gcd x y = Int.gcd a b ∧ M' = M, ⟨b.natAbs, a.natAbs, b.natAbs, .un, ?_, rfl, rfl, rfl⟩, ?_⟩
  · have e1 : (if a < 0 then -a else a) = (a.natAbs : Int) := by split <;> omega
    have e2 : b = (b.natAbs : Int) := by omega
    rw [e1, ← e2]
  · rintro n ρ M' ⟨x, y, r, rfl, rfl, hg, rfl⟩
    simp! [dSeq]
    by_cases hy : y = 0
    · subst hy
      simp only [Nat.gcd_zero_right] at hg
      subst hg
      rw [if_neg (by simp)]
      exact ⟨h4.1, h5, h4.1, h5, by rw [h4.2.1, h4.2.2]; exact h⟩
    · rw [if_pos (by omega)]
      refine ⟨by omega, x % y, Nat.mod_lt _ (by omega), y, x % y, .dat (.int ((x : Int).fmod y)), ?_, rfl, ?_⟩
      · have : (x : Int).fmod y = ((x % y : Nat) : Int) := by rw [Int.fmod_eq_emod_of_nonneg _ (by omega)]; rfl
        rw [this]
      · rw [gcd_emod]; exact hg
theorem fD_inj {p q : Rat} (h : fD p = fD q) : p = q := by
  unfold fD at h
  injection h with h
  injection h with h1 h
  injection h with h2 _
  injection h1 with h1
  injection h2 with h2
  exact Rat.ext h1 (by omega)
def bd50 (i : Int) : Prop := -(10 ^ 50) < i ∧ i < 10 ^ 50
theorem bd50.sm {i : Int} (h : bd50 i) : Sm i := by unfold bd50 at h; exact sm_lit (by omega) (by omega)

end Z

namespace Z
open PySem L2
local macro_rules | `(tactic| simp! [$xs,*]) => `(tactic| simp only [$xs,*, ↓dSeq, ↓dAsg, ↓dOp, ↓dVar, ↓dVarR, ↓dC, ↓dCall, ↓dCons, ↓dNil, ↓dIf, ↓dRet, ↓dRetN, ↓dTup, ↓dTst, ↓dNeg, ↓dNext, ↓dCB, ↓dLstOf, ↓dLst, ↓dCat, ↓dSlL, ↓dSlS, ↓dONone, ↓dOSome, ↓dList1, ↓dChain, ↓dChain3, ↓dAndT, ↓dOrT, ↓dNotT, ↓dAndV, ↓dOrV, ↓dNotV, ↓dIfE, ↓dTru, ↓dOwn, ↓dAsgG, ↓dPar, ↓dDrop, ↓dAugI, ↓dBreak, ↓dCont, ↓dgName, ↓dgNil, ↓dgCons, ↓dgTup, ↓dFrz, ↓frzE, ↓dItA, ↓dItB, ↓dRng1, ↓dRng2, ↓dEnum, ↓dFor, ↓dSM, ↓dSM0, ↓dRepN, ↓dLc, ↓dYes, ↓wipeE, ↓dStore, ↓dLmut, ↓lmPre, ↓lmAt, ↓isLst, ↓kNx, ↓kSet, ↓lmAppend, ↓lmExtend, ↓lmPop, ↓lmPopAt, ↓lmClear, ↓lmInsert, ↓lmSet, ↓dAugL, ↓dAugS, ↓lmAugS, ↓dMake, ↓dMake0, ↓dMeth, ↓dFld, ↓dSetF, ↓dTry, ↓dTryM, ↓exM, ↓dRaise, ↓endsOf, ↓startE, ↓entOf, ↓ga, ↓pur, ↓dDnew, ↓dDput, ↓dDget, ↓dDsetd, ↓dLmX, ↓dFrzM, ↓dZip, ↓dZipM, ↓dListRev, ↓oListRev, ↓dOrG, ↓dLstM, ↓onDic, ↓onDicR, ↓onLst, ↓obD, ↓dVarP, ↓dItC, ↓onIns, ↓endsW, ↓dLidx, ↓isLD, ↓oIdx, ↓dTake, ↓dLendT, ↓dLendE, ↓lendE, ↓lend1, ↓dFzv, ↓fzv, ↓dStoreX, ↓dLidxD, ↓dGive, ↓dZip3, ↓dListD, ↓drf_int, ↓drf_str, ↓drf_bl, ↓drf_non, ↓drf_lst, ↓drf_tup, ↓drf_obj, ↓drf_dic, ↓drf_cls, ↓drf_exc, ↓drf_ty, ↓drf_ref, ↓drfO_dic, ↓drfO_lst, ↓drfO_ins, ↓drfO_non, ↓oLen_d, ↓oIn_d, ↓oNotIn_d, ↓oIn_dt, ↓oNotIn_dt, ↓kOkB_s, ↓kOkB_i, ↓oAdd_i, ↓oAdd_s, ↓oAdd_t, ↓oAdd_l, ↓oSub_i, ↓oMul_i, ↓oMulW_i, ↓oMulA_i, ↓oMulA_s, ↓oFdiv_i, ↓oMod_i, ↓oPow_i, ↓oLt_i, ↓oLtA_i, ↓oLe_i, ↓oGt_i, ↓oGe_i, ↓oEq_i, ↓oEq_s, ↓oEq_b, ↓oEq_nn, ↓oEq_ni, ↓oEq_in, ↓oEq_ns, ↓oEq_sn, ↓oNe_i, ↓oNe_s, ↓oNe_b, ↓oNe_nn, ↓oNe_ni, ↓oNe_in, ↓oNe_ns, ↓oNe_sn, ↓oIsN_, ↓oNotN_, ↓isNon_int, ↓isNon_str, ↓isNon_bl, ↓isNon_non, ↓isNon_lst, ↓isNon_tup, ↓isNon_obj, ↓isNon_exc, ↓isNon_dic, ↓oLen_s, ↓oLen_l, ↓oLen_t, ↓oAbs_, ↓oMax2_, ↓oMin2_, ↓oMinT_, ↓oMaxT_, ↓oInt1_i, ↓oInt1_b, ↓oInt1_s, ↓oStr1_, ↓oTuple1_l, ↓oTuple1_t, ↓oList1_l, ↓oList1_t, ↓oListD_d, ↓oCat_l, ↓truD_n, ↓truD_b, ↓truD_i, ↓truD_s, ↓truD_l, ↓truD_t, ↓onStr_s, ↓soStarts_, ↓soUpper_, ↓soLower_, ↓soIsupper_, ↓soFind_, ↓soStrip_, ↓soPart_, ↓soSplit_, ↓soJoin_l, ↓soJoin_t, ↓oSlL_l, ↓oSlS_l, ↓oSlS_t, ↓oSlS_s, ↓isi_int_int, ↓isi_int_str, ↓isi_int_bool, ↓isi_int_NoneType, ↓isi_int_list, ↓isi_int_tuple, ↓isi_bool_int, ↓isi_bool_str, ↓isi_bool_bool, ↓isi_bool_NoneType, ↓isi_bool_list, ↓isi_bool_tuple, ↓isi_tuple_int, ↓isi_tuple_str, ↓isi_tuple_bool, ↓isi_tuple_NoneType, ↓isi_tuple_list, ↓isi_tuple_tuple, ↓isi_str_int, ↓isi_str_str, ↓isi_str_bool, ↓isi_str_NoneType, ↓isi_str_list, ↓isi_str_tuple, ↓isi_list_int, ↓isi_list_str, ↓isi_list_bool, ↓isi_list_NoneType, ↓isi_list_list, ↓isi_list_tuple, ↓oIx_t0, ↓oIx_l0, ↓oIx_t1, ↓oIx_l1, ↓oIx_t2, ↓oIx_l2, ↓oIx_t3, ↓oIx_l3, ↓oIx_t4, ↓oIx_l4, ↓oIx_t5, ↓oIx_l5, ↓oIx_f0, ↓oIx_f1, ↓drf_fD, ↓oLen_f, ↓isi_tuple_f, ↓isi_int_f, ↓eq_fD, ↓ne_fD, ofS_inj, mem_ofS, mem_ofS0, putD_nil, putD_cons, updM_same, String.reduceEq, Nat.reduceLT, true_or, or_true, false_or, or_false, true_and, and_true, false_and, and_false, List.set_cons_zero, List.set_cons_succ, List.map_cons, List.map_nil, if_true, if_false, Bool.false_eq_true, decide_eq_true_eq, List.length_cons, List.length_nil, Int.reduceNe, Int.reduceLT, Int.reduceLE, Int.reduceEq, Int.reduceToNat, Int.reducePow, Int.reduceNeg, Int.reduceAdd, Int.reduceMul, Int.reduceSub, Nat.reduceAdd, Nat.reduceLeDiff, Nat.reduceEqDiff, Int.cast_ofNat_Int, Bool.true_eq_false, ite_not, sizeLine_eq, true_and, and_true, and_self, Int.fmod_eq_emod_of_nonneg, Int.fdiv_eq_ediv_of_nonneg, Bool.not_true, Bool.not_false, Bool.not_eq_true', decide_eq_false_iff_not, decide_true, decide_false])




/-! ### sums, products, order -/
def fits (n : Nat) (p : Rat) : Prop := p.num.natAbs < 2 ^ n ∧ p.den < 2 ^ n
theorem fits.mono {m n : Nat} {p : Rat} (h : fits m p) (e : m ≤ n) : fits n p :=
  ⟨Nat.lt_of_lt_of_le h.1 (Nat.pow_le_pow_right (by decide) e), Nat.lt_of_lt_of_le h.2 (Nat.pow_le_pow_right (by decide) e)⟩
theorem fits.num {n : Nat} {p : Rat} (h : fits n p) (e : n ≤ 9000) : Sm p.num := sm_of h.1 e
theorem fits.den {n : Nat} {p : Rat} (h : fits n p) (e : n ≤ 9000) : Sm (p.den : Int) := sm_of (i := (p.den : Int)) (by have := h.2; omega) e
def Szc (p q : Rat) : Prop := ∃ m n, fits m p ∧ fits n q ∧ m + n ≤ 8900
theorem Szc.of {m n : Nat} {p q : Rat} (h1 : fits m p) (h2 : fits n q) (h : m + n ≤ 8900 := by decide) : Szc p q := ⟨m, n, h1, h2, h⟩
theorem Szc.symm {p q : Rat} (h : Szc p q) : Szc q p := by
  obtain ⟨m, n, h1, h2, h⟩ := h
  exact ⟨n, m, h2, h1, by omega⟩
theorem natAbs_lt_mul {a b : Int} {m n : Nat} (h1 : a.natAbs < 2 ^ m) (h2 : b.natAbs < 2 ^ n) : (a * b).natAbs < 2 ^ (m + n) := by
  rw [Int.natAbs_mul, Nat.pow_add]
  exact Nat.mul_lt_mul'' h1 h2
theorem divInt_fits {a b : Int} {n : Nat} (hb : b ≠ 0) (h1 : a.natAbs < 2 ^ n) (h2 : b.natAbs < 2 ^ n) : fits n (Rat.divInt a b) := by
  obtain ⟨m, m0, e1, e2, _⟩ := frac_parts (a := a) hb
  constructor
  · have e := congrArg Int.natAbs e1
    rw [Int.natAbs_mul] at e
    have := Nat.le_mul_of_pos_right (Rat.divInt a b).num.natAbs (show 0 < m.natAbs by omega)
    omega
  · have e := congrArg Int.natAbs e2
    rw [Int.natAbs_mul] at e
    have := Nat.le_mul_of_pos_right ((Rat.divInt a b).den : Int).natAbs (show 0 < m.natAbs by omega)
    omega
theorem add_divInt (p q : Rat) : Rat.divInt (p.num * q.den + q.num * p.den) ((p.den : Int) * q.den) = p + q := by
  rw [Rat.add_def']
  have e : ((p.den : Int) * q.den) = ((p.den * q.den : Nat) : Int) := by simp
  rw [e, Rat.divInt_ofNat]
theorem dd_ne (p q : Rat) : (p.den : Int) * q.den ≠ 0 := Int.mul_ne_zero (by have := den_pos p; omega) (by have := den_pos q; omega)
theorem fits.add {m n : Nat} {p q : Rat} (h1 : fits m p) (h2 : fits n q) : fits (m + n + 1) (p + q) := by
  rw [← add_divInt]
  refine divInt_fits (dd_ne p q) ?_ ?_
  · have a1 := natAbs_lt_mul h1.1 (show ((q.den : Int)).natAbs < 2 ^ n by have := h2.2; omega)
    have a2 := natAbs_lt_mul h2.1 (show ((p.den : Int)).natAbs < 2 ^ m by have := h1.2; omega)
    rw [Nat.add_comm n m] at a2
    rw [Nat.pow_succ]
    have := Int.natAbs_add_le (p.num * q.den) (q.num * p.den)
    omega
  · have := natAbs_lt_mul (show ((p.den : Int)).natAbs < 2 ^ m by have := h1.2; omega) (show ((q.den : Int)).natAbs < 2 ^ n by have := h2.2; omega)
    rw [Nat.pow_succ]
    omega
theorem sp2 {P : D → D → Prop} {ds : List D} (h : match ds with | [a, b] => P a b | _ => False) : ∃ a b, ds = [a, b] ∧ P a b := by
  split at h
  · exact ⟨_, _, rfl, h⟩
  · exact h.elim
section
variable {p q : Rat} {Q : D → Prop} {E : Str → Prop}
end
/-! ### drawn fractions -/

end Z

namespace Z
open PySem L2
local macro_rules | `(tactic| simp! [$xs,*]) => `(tactic| simp only [$xs,*, ↓dSeq, ↓dAsg, ↓dOp, ↓dVar, ↓dVarR, ↓dC, ↓dCall, ↓dCons, ↓dNil, ↓dIf, ↓dRet, ↓dRetN, ↓dTup, ↓dTst, ↓dNeg, ↓dNext, ↓dCB, ↓dLstOf, ↓dLst, ↓dCat, ↓dSlL, ↓dSlS, ↓dONone, ↓dOSome, ↓dList1, ↓dChain, ↓dChain3, ↓dAndT, ↓dOrT, ↓dNotT, ↓dAndV, ↓dOrV, ↓dNotV, ↓dIfE, ↓dTru, ↓dOwn, ↓dAsgG, ↓dPar, ↓dDrop, ↓dAugI, ↓dBreak, ↓dCont, ↓dgName, ↓dgNil, ↓dgCons, ↓dgTup, ↓dFrz, ↓frzE, ↓dItA, ↓dItB, ↓dRng1, ↓dRng2, ↓dEnum, ↓dFor, ↓dSM, ↓dSM0, ↓dRepN, ↓dLc, ↓dYes, ↓wipeE, ↓dStore, ↓dLmut, ↓lmPre, ↓lmAt, ↓isLst, ↓kNx, ↓kSet, ↓lmAppend, ↓lmExtend, ↓lmPop, ↓lmPopAt, ↓lmClear, ↓lmInsert, ↓lmSet, ↓dAugL, ↓dAugS, ↓lmAugS, ↓dMake, ↓dMake0, ↓dMeth, ↓dFld, ↓dSetF, ↓dTry, ↓dTryM, ↓exM, ↓dRaise, ↓endsOf, ↓startE, ↓entOf, ↓ga, ↓pur, ↓dDnew, ↓dDput, ↓dDget, ↓dDsetd, ↓dLmX, ↓dFrzM, ↓dZip, ↓dZipM, ↓dListRev, ↓oListRev, ↓dOrG, ↓dLstM, ↓onDic, ↓onDicR, ↓onLst, ↓obD, ↓dVarP, ↓dItC, ↓onIns, ↓endsW, ↓dLidx, ↓isLD, ↓oIdx, ↓dTake, ↓dLendT, ↓dLendE, ↓lendE, ↓lend1, ↓dFzv, ↓fzv, ↓dStoreX, ↓dLidxD, ↓dGive, ↓dZip3, ↓dListD, ↓drf_int, ↓drf_str, ↓drf_bl, ↓drf_non, ↓drf_lst, ↓drf_tup, ↓drf_obj, ↓drf_dic, ↓drf_cls, ↓drf_exc, ↓drf_ty, ↓drf_ref, ↓drfO_dic, ↓drfO_lst, ↓drfO_ins, ↓drfO_non, ↓oLen_d, ↓oIn_d, ↓oNotIn_d, ↓oIn_dt, ↓oNotIn_dt, ↓kOkB_s, ↓kOkB_i, ↓oAdd_i, ↓oAdd_s, ↓oAdd_t, ↓oAdd_l, ↓oSub_i, ↓oMul_i, ↓oMulW_i, ↓oMulA_i, ↓oMulA_s, ↓oFdiv_i, ↓oMod_i, ↓oPow_i, ↓oLt_i, ↓oLtA_i, ↓oLe_i, ↓oGt_i, ↓oGe_i, ↓oEq_i, ↓oEq_s, ↓oEq_b, ↓oEq_nn, ↓oEq_ni, ↓oEq_in, ↓oEq_ns, ↓oEq_sn, ↓oNe_i, ↓oNe_s, ↓oNe_b, ↓oNe_nn, ↓oNe_ni, ↓oNe_in, ↓oNe_ns, ↓oNe_sn, ↓oIsN_, ↓oNotN_, ↓isNon_int, ↓isNon_str, ↓isNon_bl, ↓isNon_non, ↓isNon_lst, ↓isNon_tup, ↓isNon_obj, ↓isNon_exc, ↓isNon_dic, ↓oLen_s, ↓oLen_l, ↓oLen_t, ↓oAbs_, ↓oMax2_, ↓oMin2_, ↓oMinT_, ↓oMaxT_, ↓oInt1_i, ↓oInt1_b, ↓oInt1_s, ↓oStr1_, ↓oTuple1_l, ↓oTuple1_t, ↓oList1_l, ↓oList1_t, ↓oListD_d, ↓oCat_l, ↓truD_n, ↓truD_b, ↓truD_i, ↓truD_s, ↓truD_l, ↓truD_t, ↓onStr_s, ↓soStarts_, ↓soUpper_, ↓soLower_, ↓soIsupper_, ↓soFind_, ↓soStrip_, ↓soPart_, ↓soSplit_, ↓soJoin_l, ↓soJoin_t, ↓oSlL_l, ↓oSlS_l, ↓oSlS_t, ↓oSlS_s, ↓isi_int_int, ↓isi_int_str, ↓isi_int_bool, ↓isi_int_NoneType, ↓isi_int_list, ↓isi_int_tuple, ↓isi_bool_int, ↓isi_bool_str, ↓isi_bool_bool, ↓isi_bool_NoneType, ↓isi_bool_list, ↓isi_bool_tuple, ↓isi_tuple_int, ↓isi_tuple_str, ↓isi_tuple_bool, ↓isi_tuple_NoneType, ↓isi_tuple_list, ↓isi_tuple_tuple, ↓isi_str_int, ↓isi_str_str, ↓isi_str_bool, ↓isi_str_NoneType, ↓isi_str_list, ↓isi_str_tuple, ↓isi_list_int, ↓isi_list_str, ↓isi_list_bool, ↓isi_list_NoneType, ↓isi_list_list, ↓isi_list_tuple, ↓oIx_t0, ↓oIx_l0, ↓oIx_t1, ↓oIx_l1, ↓oIx_t2, ↓oIx_l2, ↓oIx_t3, ↓oIx_l3, ↓oIx_t4, ↓oIx_l4, ↓oIx_t5, ↓oIx_l5, ↓oIx_f0, ↓oIx_f1, ↓drf_fD, ↓oLen_f, ↓isi_tuple_f, ↓isi_int_f, ↓eq_fD, ↓ne_fD, ofS_inj, mem_ofS, mem_ofS0, putD_nil, putD_cons, updM_same, String.reduceEq, Nat.reduceLT, true_or, or_true, false_or, or_false, true_and, and_true, false_and, and_false, List.set_cons_zero, List.set_cons_succ, List.map_cons, List.map_nil, if_true, if_false, Bool.false_eq_true, decide_eq_true_eq, List.length_cons, List.length_nil, Int.reduceNe, Int.reduceLT, Int.reduceLE, Int.reduceEq, Int.reduceToNat, Int.reducePow, Int.reduceNeg, Int.reduceAdd, Int.reduceMul, Int.reduceSub, Nat.reduceAdd, Nat.reduceLeDiff, Nat.reduceEqDiff, Int.cast_ofNat_Int, Bool.true_eq_false, ite_not, sizeLine_eq, true_and, and_true, and_self, Int.fmod_eq_emod_of_nonneg, Int.fdiv_eq_ediv_of_nonneg, Bool.not_true, Bool.not_false, Bool.not_eq_true', decide_eq_false_iff_not, decide_true, decide_false])
def t_is_name : DTS :=
 (dSeq (dIf (dNotT (dTst (dChain oLe oLe (dC (.int 1)) (dCB oLen (dCons (dVarR 0) dNil)) (dC (.int 12))))) (dRet (dC (.bl false))) dNext)
 (dSeq (dFor (dItA (dVar 0)) (dgName 1) (dIf (dAndT (dTst (dOp oNotIn (dVarR 1) (dC (.str "abcdefghijklmnopqrstuvwxyz")))) (dAndT (dTst (dOp oNotIn (dVarR 1) (dC (.str "ABCDEFGHIJKLMNOPQRSTUVWXYZ")))) (dTst (dOp oNotIn (dVarR 1) (dC (.str "0123456789")))))) (dRet (dC (.bl false))) dNext))
 (dRet (dC (.bl true)))))

def t_is_kind (p_is_name : SpM) : DTS :=
 (dRet (dAndV (dCall p_is_name (dCons (dVar 0) dNil)) (dOp oIn (dOp oIx (dVarR 0) (dC (.int 0))) (dC (.str "ABCDEFGHIJKLMNOPQRSTUVWXYZ")))))

def t_is_word (p_is_name : SpM) : DTS :=
 (dRet (dAndV (dCall p_is_name (dCons (dVar 0) dNil)) (dOp oNotIn (dOp oIx (dVarR 0) (dC (.int 0))) (dC (.str "ABCDEFGHIJKLMNOPQRSTUVWXYZ")))))

/-! ### texts -/
abbrev cs (x : Str) : List Nat := x.cps.toList
def mkS (l : List Nat) : Str := ⟨l.toArray⟩
theorem cs_mkS (l : List Nat) : cs (mkS l) = l := by simp [cs, mkS]
theorem mkS_cs (x : Str) : mkS (cs x) = x := by
  obtain ⟨a⟩ := x
  simp [cs, mkS]
theorem len_cs (x : Str) : x.length = (cs x).length := by
  obtain ⟨a⟩ := x
  simp [cs, Str.length]
theorem str_ext {x y : Str} (h : cs x = cs y) : x = y := by rw [← mkS_cs x, ← mkS_cs y, h]
theorem cs_app (x y : Str) : cs (x ++ y) = cs x ++ cs y := by
  obtain ⟨a⟩ := x
  obtain ⟨b⟩ := y
  show (Str.append ⟨a⟩ ⟨b⟩).cps.toList = _
  simp [Str.append, cs]
def isSm (c : Nat) : Bool := decide (97 ≤ c ∧ c ≤ 122)
def isGr (c : Nat) : Bool := decide (65 ≤ c ∧ c ≤ 90)
def isFi (c : Nat) : Bool := decide (48 ≤ c ∧ c ≤ 57)
def alnum (c : Nat) : Bool := isSm c || isGr c || isFi c
theorem mem_run {l : List Nat} {a n c : Nat} (h : l = (List.range n).map (a + ·)) : c ∈ l ↔ a ≤ c ∧ c < a + n := by
  subst h
  simp only [List.mem_map, List.mem_range]
  constructor
  · rintro ⟨k, h1, rfl⟩; omega
  · rintro ⟨h1, h2⟩; exact ⟨c - a, by omega, by omega⟩
theorem mem_small (c : Nat) : decide (c ∈ (Str.ofString "abcdefghijklmnopqrstuvwxyz").cps.toList) = isSm c := by
  have := mem_run (c := c) (show (Str.ofString "abcdefghijklmnopqrstuvwxyz").cps.toList = (List.range 26).map (97 + ·) by decide +kernel)
  rw [Bool.eq_iff_iff, decide_eq_true_eq, this, isSm, decide_eq_true_eq]; omega
theorem mem_great (c : Nat) : decide (c ∈ (Str.ofString "ABCDEFGHIJKLMNOPQRSTUVWXYZ").cps.toList) = isGr c := by
  have := mem_run (c := c) (show (Str.ofString "ABCDEFGHIJKLMNOPQRSTUVWXYZ").cps.toList = (List.range 26).map (65 + ·) by decide +kernel)
  rw [Bool.eq_iff_iff, decide_eq_true_eq, this, isGr, decide_eq_true_eq]; omega
theorem mem_figs (c : Nat) : decide (c ∈ (Str.ofString "0123456789").cps.toList) = isFi c := by
  have := mem_run (c := c) (show (Str.ofString "0123456789").cps.toList = (List.range 10).map (48 + ·) by decide +kernel)
  rw [Bool.eq_iff_iff, decide_eq_true_eq, this, isFi, decide_eq_true_eq]; omega
/-- x in a text, x one sign -/
theorem oIn_c {c : Nat} {z : Str} {Q : D → Prop} : oIn (.str ⟨#[c]⟩) (.str z) Q = Q (.bl (decide (c ∈ z.cps.toList))) :=
  propext ⟨fun ⟨c', e, q⟩ => by injection e with e; injection e with e; injection e with e; subst e; exact q, fun q => ⟨c, rfl, q⟩⟩
theorem oNotIn_c {c : Nat} {z : Str} {Q : D → Prop} : oNotIn (.str ⟨#[c]⟩) (.str z) Q = Q (.bl (!decide (c ∈ z.cps.toList))) :=
  propext ⟨fun ⟨c', e, q⟩ => by injection e with e; injection e with e; injection e with e; subst e; exact q, fun q => ⟨c, rfl, q⟩⟩
theorem oIx_s {z : Str} {i : Int} {n c : Nat} {Q : D → Prop} (e : i = (n : Int)) (h : (cs z)[n]? = some c) : oIx (.str z) (.int i) Q = (z.length ≤ sizeLine ∧ Q (.str ⟨#[c]⟩)) := by
  have := atI_at e h
  show (z.length ≤ sizeLine ∧ ∃ c, atI z.cps.toList i = some c ∧ Q (.str ⟨#[c]⟩)) = _
  rw [this]
  exact propext ⟨fun ⟨h1, d, e, q⟩ => by cases e; exact ⟨h1, q⟩, fun ⟨h1, q⟩ => ⟨h1, c, rfl, q⟩⟩
/-- names, kinds, words -/
def nameB (x : Str) : Bool := decide (1 ≤ (cs x).length ∧ (cs x).length ≤ 12) && (cs x).all alnum
def kindB (x : Str) : Bool := nameB x && (match cs x with | c :: _ => isGr c | [] => false)
def wordB (x : Str) : Bool := nameB x && (match cs x with | c :: _ => !isGr c | [] => false)
def sz (x : Str) : Prop := (cs x).length ≤ 1000000
theorem sz.ok {x : Str} (h : sz x) : x.length ≤ sizeLine := by rw [len_cs, sizeLine_eq]; unfold sz at h; omega
def sp_is_name : SpD := fun ds Q _ => match ds with | [.str x] => sz x ∧ Q (.bl (nameB x)) | _ => False
def sp_is_kind : SpD := fun ds Q _ => match ds with | [.str x] => sz x ∧ Q (.bl (kindB x)) | _ => False
def sp_is_word : SpD := fun ds Q _ => match ds with | [.str x] => sz x ∧ Q (.bl (wordB x)) | _ => False
theorem sp1s {P : Str → Prop} {ds : List D} (h : match ds with | [.str a] => P a | _ => False) : ∃ a, ds = [.str a] ∧ P a := by
  split at h
  · exact ⟨_, rfl, h⟩
  · exact h.elim
theorem sign_at {x : Str} {i : Nat} {d : D} (h : (signsD x)[i]? = some d) : ∃ c, (cs x)[i]? = some c ∧ d = .str ⟨#[c]⟩ := by
  unfold signsD at h
  rw [List.getElem?_map] at h
  obtain ⟨c, h1, h2⟩ := Option.map_eq_some_iff.mp h
  exact ⟨c, h1, h2.symm⟩
theorem take_all {l : List Nat} {P : Nat → Bool} {i c : Nat} (h : (l.take i).all P = true) (hc : l[i]? = some c) (hp : P c = true) : (l.take (i + 1)).all P = true := by
  rw [List.take_add_one, hc, List.all_append, h]
  simp [hp]
theorem all_false {l : List Nat} {P : Nat → Bool} {i c : Nat} (hc : l[i]? = some c) (hp : P c = false) : l.all P = false := by
  rw [Bool.eq_false_iff]
  intro h
  have := List.all_eq_true.mp h c (List.mem_of_getElem? hc)
  rw [hp] at this; cases this
theorem signs_len (x : Str) : (signsD x).length = (cs x).length := by simp [signsD, cs]
theorem r_is_name (ds M Q E) (h : pur sp_is_name ds M Q E) : t_is_name (endsOf Q E) (startE [false] 2 ds) M := by
  obtain ⟨x, rfl, hs, h'⟩ := sp1s h
  clear h
  have hz := hs.ok
  rw [sizeLine_eq] at hz
  simp! [t_is_name, hz]
  rw [len_cs]
  have hc : ∀ P : Prop, (Q (.bl (nameB x)) M → P) → P := fun P f => f h'
  by_cases hl : 1 ≤ (cs x).length ∧ (cs x).length ≤ 12
  · have l1 : (1 : Int) ≤ ((cs x).length : Int) := by omega
    have l2 : ((cs x).length : Int) ≤ 12 := by omega
    simp only [l1, l2, if_true, not_true_eq_false, if_false]
    refine ⟨fun i ρ M' => ((cs x).take i).all alnum = true ∧ (∃ r, ρ = [.dat (.str x), r]) ∧ M' = M, ⟨by simp, ⟨_, rfl⟩, rfl⟩, ?_, ?_⟩
    · rintro i d hd ρ M' ⟨ha, ⟨r, rfl⟩, rfl⟩
      obtain ⟨c, hc, rfl⟩ := sign_at hd
      simp! [oNotIn_c, mem_small, mem_great, mem_figs]
      cases hal : alnum c with
      | true =>
        have e := hal
        unfold alnum at e
        have go : (List.take (i + 1) (cs x)).all alnum = true ∧ ∃ r, [Ent.dat (D.str x), Ent.dat (D.str ⟨#[c]⟩)] = [Ent.dat (D.str x), r] := ⟨take_all ha hc hal, _, rfl⟩
        cases h1 : isSm c <;> cases h2 : isGr c <;> cases h3 : isFi c <;> rw [h1, h2, h3] at e <;> first | (cases e; done) | exact go
      | false =>
        have e := hal
        unfold alnum at e
        simp only [Bool.or_eq_false_iff] at e
        rw [e.1.1, e.1.2, e.2]
        have := all_false hc hal
        unfold nameB at h'
        rw [this, Bool.and_false] at h'
        exact h'
    · rintro ρ M' ⟨ha, ⟨r, rfl⟩, rfl⟩
      rw [signs_len, List.take_length] at ha
      simp! [dSeq]
      unfold nameB at h'
      rw [ha, decide_eq_true hl] at h'
      exact h'
  · have hn : nameB x = false := by unfold nameB; rw [decide_eq_false hl]; rfl
    rw [hn] at h'
    by_cases l1 : (1 : Int) ≤ ((cs x).length : Int)
    · have l2 : ¬ ((cs x).length : Int) ≤ 12 := by omega
      simp only [l1, l2, if_true, if_false, not_true_eq_false, not_false_eq_true]
      exact h'
    · simp only [l1, if_true, if_false, not_true_eq_false, not_false_eq_true]
      exact h'
theorem name_cons {x : Str} (h : nameB x = true) : ∃ c r, cs x = c :: r ∧ alnum c = true := by
  unfold nameB at h
  rw [Bool.and_eq_true, decide_eq_true_eq] at h
  cases e : cs x with
  | nil => rw [e] at h; simp at h
  | cons c r => rw [e] at h; simp at h; exact ⟨c, r, rfl, h.2.1⟩
theorem r_is_kind (ds M Q E) (h : pur sp_is_kind ds M Q E) : t_is_kind (pur sp_is_name) (endsOf Q E) (startE [false] 1 ds) M := by
  obtain ⟨x, rfl, hs, h'⟩ := sp1s h
  clear h
  simp! [t_is_kind, sp_is_name]
  refine ⟨hs, ?_⟩
  cases hn : nameB x with
  | false => unfold kindB at h'; rw [hn] at h'; exact h'
  | true =>
    obtain ⟨c, r, e, _⟩ := name_cons hn
    simp only [if_true]
    rw [oIx_s (i := 0) (n := 0) rfl (by rw [e]; rfl)]
    refine ⟨hs.ok, ?_⟩
    simp! [oIn_c, mem_great]
    unfold kindB at h'
    rw [hn, e] at h'
    exact h'
theorem r_is_word (ds M Q E) (h : pur sp_is_word ds M Q E) : t_is_word (pur sp_is_name) (endsOf Q E) (startE [false] 1 ds) M := by
  obtain ⟨x, rfl, hs, h'⟩ := sp1s h
  clear h
  simp! [t_is_word, sp_is_name]
  refine ⟨hs, ?_⟩
  cases hn : nameB x with
  | false => unfold wordB at h'; rw [hn] at h'; exact h'
  | true =>
    obtain ⟨c, r, e, _⟩ := name_cons hn
    simp only [if_true]
    rw [oIx_s (i := 0) (n := 0) rfl (by rw [e]; rfl)]
    refine ⟨hs.ok, ?_⟩
    simp! [oNotIn_c, mem_great]
    unfold wordB at h'
    rw [hn, e] at h'
    exact h'

/-! ### joined texts -/
theorem joinL_nil : ∀ ps : List (List Nat), TL.joinL [] ps = ps.flatten
  | [] => rfl
  | [p] => by simp [TL.joinL]
  | p :: q :: r => by
    show p ++ ([] ++ TL.joinL [] (q :: r)) = _
    rw [joinL_nil (q :: r)]; simp
theorem cs_empty : cs (Str.ofString "") = [] := by decide +kernel
theorem cs_join0 (ys : List Str) : cs (Txt.join (Str.ofString "") ys) = (ys.map cs).flatten := by
  rw [TL.join_eq]
  have := TL.tl_join (Str.ofString "") ys
  show TL.tl _ = _
  rw [this]
  have e : TL.tl (Str.ofString "") = [] := cs_empty
  rw [e, joinL_nil]
theorem ones {acc : List D} (h : ∀ (i : Nat) d, acc[i]? = some d → ∃ c, d = .str ⟨#[c]⟩) : ∃ l : List Nat, l.length = acc.length ∧ acc = (l.map fun c => (⟨#[c]⟩ : Str)).map .str := by
  induction acc with
  | nil => exact ⟨[], rfl, rfl⟩
  | cons a r ih =>
    obtain ⟨c, rfl⟩ := h 0 a rfl
    obtain ⟨l, h1, h2⟩ := ih fun i d e => h (i + 1) d e
    exact ⟨c :: l, by simp [h1], by rw [h2]; simp⟩
theorem lit_len (s : String) (n : Nat) (h : (cs (Str.ofString s)).length = n) : (Str.ofString s).length = n := by rw [len_cs]; exact h
theorem ix_str {z : Str} {i : Int} {Q : D → Prop} (h0 : 0 ≤ i) (h1 : i < (cs z).length) (hz : z.length ≤ sizeLine) (q : ∀ c, (cs z)[i.toNat]? = some c → Q (.str ⟨#[c]⟩)) : oIx (.str z) (.int i) Q := by
  obtain ⟨c, hc⟩ : ∃ c, (cs z)[i.toNat]? = some c := ⟨_, List.getElem?_eq_getElem (by omega)⟩
  rw [oIx_s (i := i) (n := i.toNat) (by omega) hc]
  exact ⟨hz, q c hc⟩
theorem rng_at {lo : Int} {n i : Nat} {d : D} (h : (rngD lo n)[i]? = some d) : i < n ∧ d = .int (lo + i) := by
  unfold rngD at h
  rw [List.getElem?_map] at h
  obtain ⟨k, h1, h2⟩ := Option.map_eq_some_iff.mp h
  obtain ⟨h3, h4⟩ := List.getElem?_eq_some_iff.mp h1
  rw [List.getElem_range] at h4
  simp at h3
  subst h4
  exact ⟨h3, h2.symm⟩
theorem rng_len (lo : Int) (n : Nat) : (rngD lo n).length = n := by simp [rngD]
/-! ### lengths -/
theorem cutS_cs (z : Str) (lo hi : Option Int) : cs (cutS z lo hi) = ((cs z).drop (HT.sIx (cs z).length 0 lo)).take (HT.sIx (cs z).length (cs z).length hi - HT.sIx (cs z).length 0 lo) := by
  unfold cutS
  simp [cs, Str.length]
theorem app_len (x y : Str) : (x ++ y).length = x.length + y.length := by rw [len_cs, len_cs, len_cs, cs_app, List.length_append]
theorem one_len (c : Nat) : (⟨#[c]⟩ : Str).length = 1 := rfl
theorem ix_all {xs : List D} {i : Int} {P : D → Prop} {Q : D → Prop} (h0 : 0 ≤ i) (h1 : i < xs.length) (hP : ∀ d ∈ xs, P d) (q : ∀ d, P d → Q d) : oIx (.lst xs) (.int i) Q := by
  rw [(ix_lt h0 h1).1]
  refine q _ (hP _ ?_)
  rw [List.getD_eq_getElem?_getD, List.getElem?_eq_getElem (by omega)]
  exact List.getElem_mem _

end Z

namespace Z
open PySem L2
local macro_rules | `(tactic| simp! [$xs,*]) => `(tactic| simp only [$xs,*, ↓dSeq, ↓dAsg, ↓dOp, ↓dVar, ↓dVarR, ↓dC, ↓dCall, ↓dCons, ↓dNil, ↓dIf, ↓dRet, ↓dRetN, ↓dTup, ↓dTst, ↓dNeg, ↓dNext, ↓dCB, ↓dLstOf, ↓dLst, ↓dCat, ↓dSlL, ↓dSlS, ↓dONone, ↓dOSome, ↓dList1, ↓dChain, ↓dChain3, ↓dAndT, ↓dOrT, ↓dNotT, ↓dAndV, ↓dOrV, ↓dNotV, ↓dIfE, ↓dTru, ↓dOwn, ↓dAsgG, ↓dPar, ↓dDrop, ↓dAugI, ↓dBreak, ↓dCont, ↓dgName, ↓dgNil, ↓dgCons, ↓dgTup, ↓dFrz, ↓frzE, ↓dItA, ↓dItB, ↓dRng1, ↓dRng2, ↓dEnum, ↓dFor, ↓dSM, ↓dSM0, ↓dRepN, ↓dLc, ↓dYes, ↓wipeE, ↓dStore, ↓dLmut, ↓lmPre, ↓lmAt, ↓isLst, ↓kNx, ↓kSet, ↓lmAppend, ↓lmExtend, ↓lmPop, ↓lmPopAt, ↓lmClear, ↓lmInsert, ↓lmSet, ↓dAugL, ↓dAugS, ↓lmAugS, ↓dMake, ↓dMake0, ↓dMeth, ↓dFld, ↓dSetF, ↓dTry, ↓dTryM, ↓exM, ↓dRaise, ↓endsOf, ↓startE, ↓entOf, ↓ga, ↓pur, ↓dDnew, ↓dDput, ↓dDget, ↓dDsetd, ↓dLmX, ↓dFrzM, ↓dZip, ↓dZipM, ↓dListRev, ↓oListRev, ↓dOrG, ↓dLstM, ↓onDic, ↓onDicR, ↓onLst, ↓obD, ↓dVarP, ↓dItC, ↓onIns, ↓endsW, ↓dLidx, ↓isLD, ↓oIdx, ↓dTake, ↓dLendT, ↓dLendE, ↓lendE, ↓lend1, ↓dFzv, ↓fzv, ↓dStoreX, ↓dLidxD, ↓dGive, ↓dZip3, ↓dListD, ↓drf_int, ↓drf_str, ↓drf_bl, ↓drf_non, ↓drf_lst, ↓drf_tup, ↓drf_obj, ↓drf_dic, ↓drf_cls, ↓drf_exc, ↓drf_ty, ↓drf_ref, ↓drfO_dic, ↓drfO_lst, ↓drfO_ins, ↓drfO_non, ↓oLen_d, ↓oIn_d, ↓oNotIn_d, ↓oIn_dt, ↓oNotIn_dt, ↓kOkB_s, ↓kOkB_i, ↓oAdd_i, ↓oAdd_s, ↓oAdd_t, ↓oAdd_l, ↓oSub_i, ↓oMul_i, ↓oMulW_i, ↓oMulA_i, ↓oMulA_s, ↓oFdiv_i, ↓oMod_i, ↓oPow_i, ↓oLt_i, ↓oLtA_i, ↓oLe_i, ↓oGt_i, ↓oGe_i, ↓oEq_i, ↓oEq_s, ↓oEq_b, ↓oEq_nn, ↓oEq_ni, ↓oEq_in, ↓oEq_ns, ↓oEq_sn, ↓oNe_i, ↓oNe_s, ↓oNe_b, ↓oNe_nn, ↓oNe_ni, ↓oNe_in, ↓oNe_ns, ↓oNe_sn, ↓oIsN_, ↓oNotN_, ↓isNon_int, ↓isNon_str, ↓isNon_bl, ↓isNon_non, ↓isNon_lst, ↓isNon_tup, ↓isNon_obj, ↓isNon_exc, ↓isNon_dic, ↓oLen_s, ↓oLen_l, ↓oLen_t, ↓oAbs_, ↓oMax2_, ↓oMin2_, ↓oMinT_, ↓oMaxT_, ↓oInt1_i, ↓oInt1_b, ↓oInt1_s, ↓oStr1_, ↓oTuple1_l, ↓oTuple1_t, ↓oList1_l, ↓oList1_t, ↓oListD_d, ↓oCat_l, ↓truD_n, ↓truD_b, ↓truD_i, ↓truD_s, ↓truD_l, ↓truD_t, ↓onStr_s, ↓soStarts_, ↓soUpper_, ↓soLower_, ↓soIsupper_, ↓soFind_, ↓soStrip_, ↓soPart_, ↓soSplit_, ↓soJoin_l, ↓soJoin_t, ↓oSlL_l, ↓oSlS_l, ↓oSlS_t, ↓oSlS_s, ↓isi_int_int, ↓isi_int_str, ↓isi_int_bool, ↓isi_int_NoneType, ↓isi_int_list, ↓isi_int_tuple, ↓isi_bool_int, ↓isi_bool_str, ↓isi_bool_bool, ↓isi_bool_NoneType, ↓isi_bool_list, ↓isi_bool_tuple, ↓isi_tuple_int, ↓isi_tuple_str, ↓isi_tuple_bool, ↓isi_tuple_NoneType, ↓isi_tuple_list, ↓isi_tuple_tuple, ↓isi_str_int, ↓isi_str_str, ↓isi_str_bool, ↓isi_str_NoneType, ↓isi_str_list, ↓isi_str_tuple, ↓isi_list_int, ↓isi_list_str, ↓isi_list_bool, ↓isi_list_NoneType, ↓isi_list_list, ↓isi_list_tuple, ↓oIx_t0, ↓oIx_l0, ↓oIx_t1, ↓oIx_l1, ↓oIx_t2, ↓oIx_l2, ↓oIx_t3, ↓oIx_l3, ↓oIx_t4, ↓oIx_l4, ↓oIx_t5, ↓oIx_l5, ↓oIx_f0, ↓oIx_f1, ↓drf_fD, ↓oLen_f, ↓isi_tuple_f, ↓isi_int_f, ↓eq_fD, ↓ne_fD, ofS_inj, mem_ofS, mem_ofS0, putD_nil, putD_cons, updM_same, String.reduceEq, Nat.reduceLT, true_or, or_true, false_or, or_false, true_and, and_true, false_and, and_false, List.set_cons_zero, List.set_cons_succ, List.map_cons, List.map_nil, if_true, if_false, Bool.false_eq_true, decide_eq_true_eq, List.length_cons, List.length_nil, Int.reduceNe, Int.reduceLT, Int.reduceLE, Int.reduceEq, Int.reduceToNat, Int.reducePow, Int.reduceNeg, Int.reduceAdd, Int.reduceMul, Int.reduceSub, Nat.reduceAdd, Nat.reduceLeDiff, Nat.reduceEqDiff, Int.cast_ofNat_Int, Bool.true_eq_false, ite_not, sizeLine_eq, true_and, and_true, and_self, Int.fmod_eq_emod_of_nonneg, Int.fdiv_eq_ediv_of_nonneg, Bool.not_true, Bool.not_false, Bool.not_eq_true', decide_eq_false_iff_not, decide_true, decide_false])




def t_Scale_takes : DTS :=
 (dRet (dC (.bl true)))

def t_Chance_takes : DTS :=
 (dRet (dOp oGt (dOp oIx (dVarR 1) (dC (.int 0))) (dC (.int 0))))





def t_scale_of : DTS :=
 (dSeq (dIf (dTst (dOp oEq (dVarR 0) (dC (.str "cost")))) (dRet (dMake0 "Cost")) dNext)
 (dSeq (dIf (dTst (dOp oEq (dVarR 0) (dC (.str "chance")))) (dRet (dMake0 "Chance")) dNext)
 (dRaise "NoScale")))

theorem divInt_pos {a b : Int} (ha : 0 < a) (hb : 0 < b) : 0 < (Rat.divInt a b).num := by
  have hx := divInt_cross (a := a) (b := b) (by omega)
  have hq := den_pos (Rat.divInt a b)
  have := Int.mul_pos ha hq
  rcases Int.lt_trichotomy 0 (Rat.divInt a b).num with z | z | z
  · exact z
  · rw [← z, Int.zero_mul] at hx
    omega
  · have := Int.mul_neg_of_neg_of_pos z hb
    omega
/-! ### scales -/
def scD : Bool → D
  | true => .obj "Chance" []
  | false => .obj "Cost" []
def wordS : Bool → Str
  | true => "chance"
  | false => "cost"
section
variable {p q : SpM} {K : SpM → Prop} {m : Str} {c : Bool} {M : Mu}
theorem drf_sc : drf M (scD c) = scD c := by cases c <;> rfl
theorem meth_sc : methD m [("Cost", p), ("Chance", q)] (scD c) K = K (if c = true then q else p) := by
  cases c
  · exact propext ⟨fun ⟨_, _, e, h⟩ => by cases e; exact h, fun h => ⟨rfl, p, rfl, h⟩⟩
  · exact propext ⟨fun ⟨_, _, e, h⟩ => by cases e; exact h, fun h => ⟨rfl, q, rfl, h⟩⟩
end
section
variable {cs : List D} {bs : List (String × Bool)} {exs objs : List (Str × Bool)} {n : Str} {fs : List (Str × D)} {b : Bool} {Q : D → Prop} {c : D}
end
def sp_Scale_takes : SpD := fun ds Q _ => match ds with | [_, _] => Q (.bl true) | _ => False
def sp_Chance_takes : SpD := fun ds Q _ => match ds with | [_, d] => ∃ p, d = fD p ∧ Q (.bl (decide (0 < p.num))) | _ => False
theorem sp1 {P : D → Prop} {ds : List D} (h : match ds with | [a] => P a | _ => False) : ∃ a, ds = [a] ∧ P a := by
  split at h
  · exact ⟨_, rfl, h⟩
  · exact h.elim
section
variable {d : D} {p q : Rat} {Q : D → Prop} {E : Str → Prop}
theorem e_Chance_takes : sp_Chance_takes [d, fD p] Q E = Q (.bl (decide (0 < p.num))) := propext ⟨fun ⟨a, e, h⟩ => by cases fD_inj e; exact h, fun h => ⟨p, rfl, h⟩⟩
end
theorem r_Scale_takes (ds M Q E) (h : pur sp_Scale_takes ds M Q E) : t_Scale_takes (endsOf Q E) (startE [false, false] 2 ds) M := by
  obtain ⟨d, e, rfl, h⟩ := sp2 h
  simp! [t_Scale_takes]; exact h
theorem r_Chance_takes (ds M Q E) (h : pur sp_Chance_takes ds M Q E) : t_Chance_takes (endsOf Q E) (startE [false, false] 2 ds) M := by
  obtain ⟨d, e, rfl, p, rfl, h'⟩ := sp2 h
  simp! [t_Chance_takes]; exact h'
def sp_scale_of : SpD := fun ds Q E => match ds with | [.str w] => (if w = "cost" then Q (scD false) else if w = "chance" then Q (scD true) else E "NoScale") | _ => False
theorem r_scale_of (ds M Q E) (h : pur sp_scale_of ds M Q E) : t_scale_of (endsOf Q E) (startE [false] 1 ds) M := by
  obtain ⟨w, rfl, h⟩ := sp1s h
  simp! [t_scale_of]; exact h
theorem e_scale_of {c : Bool} {Q : D → Prop} {E : Str → Prop} : sp_scale_of [.str (wordS c)] Q E = Q (scD c) := by
  cases c
  · show (if wordS false = "cost" then Q (scD false) else if wordS false = "chance" then Q (scD true) else E "NoScale") = _
    rw [if_pos (show wordS false = "cost" from rfl)]
  · show (if wordS true = "cost" then Q (scD false) else if wordS true = "chance" then Q (scD true) else E "NoScale") = _
    rw [if_neg (by decide), if_pos (show wordS true = "chance" from rfl)]

end Z

namespace Z
open PySem L2
local macro_rules | `(tactic| simp! [$xs,*]) => `(tactic| simp only [$xs,*, ↓dSeq, ↓dAsg, ↓dOp, ↓dVar, ↓dVarR, ↓dC, ↓dCall, ↓dCons, ↓dNil, ↓dIf, ↓dRet, ↓dRetN, ↓dTup, ↓dTst, ↓dNeg, ↓dNext, ↓dCB, ↓dLstOf, ↓dLst, ↓dCat, ↓dSlL, ↓dSlS, ↓dONone, ↓dOSome, ↓dList1, ↓dChain, ↓dChain3, ↓dAndT, ↓dOrT, ↓dNotT, ↓dAndV, ↓dOrV, ↓dNotV, ↓dIfE, ↓dTru, ↓dOwn, ↓dAsgG, ↓dPar, ↓dDrop, ↓dAugI, ↓dBreak, ↓dCont, ↓dgName, ↓dgNil, ↓dgCons, ↓dgTup, ↓dFrz, ↓frzE, ↓dItA, ↓dItB, ↓dRng1, ↓dRng2, ↓dEnum, ↓dFor, ↓dSM, ↓dSM0, ↓dRepN, ↓dLc, ↓dYes, ↓wipeE, ↓dStore, ↓dLmut, ↓lmPre, ↓lmAt, ↓isLst, ↓kNx, ↓kSet, ↓lmAppend, ↓lmExtend, ↓lmPop, ↓lmPopAt, ↓lmClear, ↓lmInsert, ↓lmSet, ↓dAugL, ↓dAugS, ↓lmAugS, ↓dMake, ↓dMake0, ↓dMeth, ↓dFld, ↓dSetF, ↓dTry, ↓dTryM, ↓exM, ↓dRaise, ↓endsOf, ↓startE, ↓entOf, ↓ga, ↓pur, ↓dDnew, ↓dDput, ↓dDget, ↓dDsetd, ↓dLmX, ↓dFrzM, ↓dZip, ↓dZipM, ↓dListRev, ↓oListRev, ↓dOrG, ↓dLstM, ↓onDic, ↓onDicR, ↓onLst, ↓obD, ↓dVarP, ↓dItC, ↓onIns, ↓endsW, ↓dLidx, ↓isLD, ↓oIdx, ↓dTake, ↓dLendT, ↓dLendE, ↓lendE, ↓lend1, ↓dFzv, ↓fzv, ↓dStoreX, ↓dLidxD, ↓dGive, ↓dZip3, ↓dListD, ↓drf_int, ↓drf_str, ↓drf_bl, ↓drf_non, ↓drf_lst, ↓drf_tup, ↓drf_obj, ↓drf_dic, ↓drf_cls, ↓drf_exc, ↓drf_ty, ↓drf_ref, ↓drfO_dic, ↓drfO_lst, ↓drfO_ins, ↓drfO_non, ↓oLen_d, ↓oIn_d, ↓oNotIn_d, ↓oIn_dt, ↓oNotIn_dt, ↓kOkB_s, ↓kOkB_i, ↓oAdd_i, ↓oAdd_s, ↓oAdd_t, ↓oAdd_l, ↓oSub_i, ↓oMul_i, ↓oMulW_i, ↓oMulA_i, ↓oMulA_s, ↓oFdiv_i, ↓oMod_i, ↓oPow_i, ↓oLt_i, ↓oLtA_i, ↓oLe_i, ↓oGt_i, ↓oGe_i, ↓oEq_i, ↓oEq_s, ↓oEq_b, ↓oEq_nn, ↓oEq_ni, ↓oEq_in, ↓oEq_ns, ↓oEq_sn, ↓oNe_i, ↓oNe_s, ↓oNe_b, ↓oNe_nn, ↓oNe_ni, ↓oNe_in, ↓oNe_ns, ↓oNe_sn, ↓oIsN_, ↓oNotN_, ↓isNon_int, ↓isNon_str, ↓isNon_bl, ↓isNon_non, ↓isNon_lst, ↓isNon_tup, ↓isNon_obj, ↓isNon_exc, ↓isNon_dic, ↓oLen_s, ↓oLen_l, ↓oLen_t, ↓oAbs_, ↓oMax2_, ↓oMin2_, ↓oMinT_, ↓oMaxT_, ↓oInt1_i, ↓oInt1_b, ↓oInt1_s, ↓oStr1_, ↓oTuple1_l, ↓oTuple1_t, ↓oList1_l, ↓oList1_t, ↓oListD_d, ↓oCat_l, ↓truD_n, ↓truD_b, ↓truD_i, ↓truD_s, ↓truD_l, ↓truD_t, ↓onStr_s, ↓soStarts_, ↓soUpper_, ↓soLower_, ↓soIsupper_, ↓soFind_, ↓soStrip_, ↓soPart_, ↓soSplit_, ↓soJoin_l, ↓soJoin_t, ↓oSlL_l, ↓oSlS_l, ↓oSlS_t, ↓oSlS_s, ↓isi_int_int, ↓isi_int_str, ↓isi_int_bool, ↓isi_int_NoneType, ↓isi_int_list, ↓isi_int_tuple, ↓isi_bool_int, ↓isi_bool_str, ↓isi_bool_bool, ↓isi_bool_NoneType, ↓isi_bool_list, ↓isi_bool_tuple, ↓isi_tuple_int, ↓isi_tuple_str, ↓isi_tuple_bool, ↓isi_tuple_NoneType, ↓isi_tuple_list, ↓isi_tuple_tuple, ↓isi_str_int, ↓isi_str_str, ↓isi_str_bool, ↓isi_str_NoneType, ↓isi_str_list, ↓isi_str_tuple, ↓isi_list_int, ↓isi_list_str, ↓isi_list_bool, ↓isi_list_NoneType, ↓isi_list_list, ↓isi_list_tuple, ↓oIx_t0, ↓oIx_l0, ↓oIx_t1, ↓oIx_l1, ↓oIx_t2, ↓oIx_l2, ↓oIx_t3, ↓oIx_l3, ↓oIx_t4, ↓oIx_l4, ↓oIx_t5, ↓oIx_l5, ↓oIx_f0, ↓oIx_f1, ↓drf_fD, ↓oLen_f, ↓isi_tuple_f, ↓isi_int_f, ↓eq_fD, ↓ne_fD, ofS_inj, mem_ofS, mem_ofS0, putD_nil, putD_cons, updM_same, String.reduceEq, Nat.reduceLT, true_or, or_true, false_or, or_false, true_and, and_true, false_and, and_false, List.set_cons_zero, List.set_cons_succ, List.map_cons, List.map_nil, if_true, if_false, Bool.false_eq_true, decide_eq_true_eq, List.length_cons, List.length_nil, Int.reduceNe, Int.reduceLT, Int.reduceLE, Int.reduceEq, Int.reduceToNat, Int.reducePow, Int.reduceNeg, Int.reduceAdd, Int.reduceMul, Int.reduceSub, Nat.reduceAdd, Nat.reduceLeDiff, Nat.reduceEqDiff, Int.cast_ofNat_Int, Bool.true_eq_false, ite_not, sizeLine_eq, true_and, and_true, and_self, Int.fmod_eq_emod_of_nonneg, Int.fdiv_eq_ediv_of_nonneg, Bool.not_true, Bool.not_false, Bool.not_eq_true', decide_eq_false_iff_not, decide_true, decide_false])
def t_fraction_text : DTS :=
 (dSeq (dIf (dTst (dOp oEq (dOp oIx (dVarR 0) (dC (.int 1))) (dC (.int 1)))) (dRet (dCB oStr1 (dCons (dOp oIx (dVarR 0) (dC (.int 0))) dNil))) dNext)
 (dRet (dOp oAdd (dOp oAdd (dCB oStr1 (dCons (dOp oIx (dVarR 0) (dC (.int 0))) dNil)) (dC (.str "/"))) (dCB oStr1 (dCons (dOp oIx (dVarR 0) (dC (.int 1))) dNil)))))

def t_are_figures : DTS :=
 (dSeq (dIf (dNotT (dTst (dChain oLe oLe (dC (.int 1)) (dCB oLen (dCons (dVarR 0) dNil)) (dC (.int 40))))) (dRet (dC (.bl false))) dNext)
 (dSeq (dFor (dItA (dVar 0)) (dgName 1) (dIf (dTst (dOp oNotIn (dVarR 1) (dC (.str "0123456789")))) (dRet (dC (.bl false))) dNext))
 (dRet (dOrV (dOp oEq (dVarR 0) (dC (.str "0"))) (dNotV (dSM soStarts (dVarR 0) (dCons (dC (.str "0")) dNil)))))))

def t_read_fraction (p_are_figures : SpM) (p_fraction : SpM) : DTS :=
 (dSeq (dAsgG (dSM soPart (dVarR 0) (dCons (dC (.str "/")) dNil)) (dgTup 3 (dgCons (dgName 1) (dgCons (dgName 2) (dgCons (dgName 3) dgNil)))))
 (dSeq (dAsg 4 (dVar 1))
 (dSeq (dIf (dTru (dSM soStarts (dVarR 1) (dCons (dC (.str "-")) dNil))) (dAsg 4 (dSlS (dVarR 1) (dOSome (dC (.int 1))) dONone)) dNext)
 (dSeq (dIf (dOrT (dNotT (dTru (dCall p_are_figures (dCons (dVar 4) dNil)))) (dTst (dOp oEq (dVarR 1) (dC (.str "-0"))))) (dRaise "NoLine") dNext)
 (dSeq (dIf (dTst (dOp oEq (dVarR 2) (dC (.str "")))) (dRet (dTup (dCons (dCB oInt1 (dCons (dVarR 1) dNil)) (dCons (dC (.int 1)) dNil)))) dNext)
 (dSeq (dIf (dOrT (dNotT (dTru (dCall p_are_figures (dCons (dVar 3) dNil)))) (dTst (dOp oEq (dVarR 3) (dC (.str "0"))))) (dRaise "NoLine") dNext)
 (dRet (dCall p_fraction (dCons (dCB oInt1 (dCons (dVarR 1) dNil)) (dCons (dCB oInt1 (dCons (dVarR 3) dNil)) dNil))))))))))

/-! ### texts of numbers and fractions -/
open TL (numL) in
def intL (i : Int) : List Nat := if i < 0 then 45 :: numL i.natAbs else numL i.natAbs
theorem cs_int (i : Int) : cs (Str.ofString (toString i)) = intL i := by
  unfold intL
  by_cases h : i < 0
  · rw [if_pos h]
    obtain ⟨n, e⟩ : ∃ n : Nat, i = Int.negSucc n := ⟨i.natAbs - 1, by omega⟩
    subst e
    have e1 : toString (Int.negSucc n) = "-" ++ toString ((n + 1 : Nat)) := rfl
    rw [show cs (Str.ofString (toString (Int.negSucc n))) = (toString (Int.negSucc n)).toList.map Char.toNat from TL.tl_ofString _, e1, String.toList_append, List.map_append]
    have e2 : cs (Str.ofString (toString ((n + 1 : Nat) : Int))) = TL.numL (n + 1) := TL.tl_num (n + 1)
    rw [show cs (Str.ofString (toString ((n + 1 : Nat) : Int))) = (toString ((n + 1 : Nat) : Int)).toList.map Char.toNat from TL.tl_ofString _] at e2
    have e3 : toString ((n + 1 : Nat) : Int) = toString (n + 1 : Nat) := rfl
    rw [e3] at e2
    rw [e2]
    rfl
  · rw [if_neg h]
    have e : i = ((i.natAbs : Nat) : Int) := by omega
    rw [e]
    exact TL.tl_num _
def figs (l : List Nat) : Bool := decide (1 ≤ l.length ∧ l.length ≤ 40) && (l.all isFi && (l == [48] || l.head? != some 48))
theorem dig_of {l : List Nat} (h : l.all isFi = true) : NumText.AllDigits l := fun c hc => by
  have := List.all_eq_true.mp h c hc
  unfold isFi at this
  exact of_decide_eq_true this
def val (l : List Nat) : Nat := NumText.digitsVal l
def readA : List Nat → Option Int
  | 45 :: r => if figs r = true ∧ r ≠ [48] then some (-(val r : Int)) else none
  | r => if figs r = true then some (val r : Int) else none
def readB (l : List Nat) : Option Int := if figs l = true ∧ l ≠ [48] then some (val l : Int) else none
def parA (l : List Nat) : List Nat := l.takeWhile (· ≠ 47)
def parB (l : List Nat) : List Nat := l.dropWhile (· ≠ 47)
def readL (l : List Nat) : Option Rat := match readA (parA l), parB l with
  | some a, [] => some (Rat.divInt a 1)
  | some a, _ :: r => (readB r).map fun b => Rat.divInt a b
  | none, _ => none
theorem par_cases (l : List Nat) : (47 ∉ l ∧ parA l = l ∧ parB l = []) ∨ ∃ r, l = parA l ++ 47 :: r ∧ parB l = 47 :: r ∧ 47 ∉ parA l := by
  induction l with
  | nil => exact .inl ⟨by simp, rfl, rfl⟩
  | cons c l ih =>
    by_cases h : c = 47
    · subst h
      exact .inr ⟨l, by simp [parA], by simp [parB], by simp [parA]⟩
    · have e1 : parA (c :: l) = c :: parA l := by simp [parA, List.takeWhile_cons, h]
      have e2 : parB (c :: l) = parB l := by simp [parB, List.dropWhile_cons, h]
      rw [e1, e2]
      rcases ih with ⟨i1, i2, i3⟩ | ⟨r, i1, i2, i3⟩
      · exact .inl ⟨by simp [i1]; exact fun z => h z.symm, by rw [i2], i3⟩
      · exact .inr ⟨r, by rw [List.cons_append, ← i1], i2, by simp [i3]; exact fun z => h z.symm⟩
theorem figs_len {l : List Nat} (h : figs l = true) : (1 ≤ l.length ∧ l.length ≤ 40) ∧ l.all isFi = true ∧ (l = [48] ∨ l.head? ≠ some 48) := by
  unfold figs at h
  simp only [Bool.and_eq_true, decide_eq_true_eq, Bool.or_eq_true, beq_iff_eq, bne_iff_ne, ne_eq] at h
  exact ⟨h.1, h.2.1, h.2.2⟩
theorem val_lt {l : List Nat} (h : NumText.AllDigits l) : val l < 10 ^ l.length := by
  have go : ∀ (l : List Nat) (a : Nat), NumText.AllDigits l → l.foldl (fun acc c => acc * 10 + (c - 48)) a < (a + 1) * 10 ^ l.length := by
    intro l
    induction l with
    | nil => intro a _; simp
    | cons c r ih =>
      intro a h
      have hc := h.head
      have := ih (a * 10 + (c - 48)) h.tail
      rw [List.foldl_cons, List.length_cons, Nat.pow_succ]
      have e : (a * 10 + (c - 48) + 1) * 10 ^ r.length ≤ ((a + 1) * 10) * 10 ^ r.length := Nat.mul_le_mul_right _ (by omega)
      rw [Nat.mul_assoc, Nat.mul_comm 10] at e
      omega
  have := go l 0 h
  unfold val NumText.digitsVal
  simpa using this
theorem val_lt40 {l : List Nat} (h : figs l = true) : val l < 10 ^ 40 := by
  obtain ⟨h1, h2, _⟩ := figs_len h
  exact Nat.lt_of_lt_of_le (val_lt (dig_of h2)) (Nat.pow_le_pow_right (by decide) h1.2)
theorem val_ge : ∀ (l : List Nat) (a : Nat), a ≤ l.foldl (fun acc c => acc * 10 + (c - 48)) a
  | [], a => Nat.le_refl a
  | c :: r, a => by
    rw [List.foldl_cons]
    have := val_ge r (a * 10 + (c - 48))
    omega
theorem val_pos {l : List Nat} (h : figs l = true) (h2 : l ≠ [48]) : 0 < val l := by
  obtain ⟨h1, h3, h4⟩ := figs_len h
  cases l with
  | nil => simp at h1
  | cons c r =>
    have hc := (dig_of h3).head
    have hn : c ≠ 48 := by
      rcases h4 with h4 | h4
      · exact absurd h4 h2
      · simpa using h4
    unfold val NumText.digitsVal
    rw [List.foldl_cons]
    have := val_ge r (0 * 10 + (c - 48))
    omega
theorem numL_head (n : Nat) (h : 1 ≤ n) : ∃ c r, TL.numL n = c :: r ∧ 49 ≤ c := by
  induction n using Nat.strongRecOn with
  | _ n ih =>
    by_cases h10 : n < 10
    · exact ⟨48 + n, [], TL.numL_lt h10, by omega⟩
    · obtain ⟨c, r, e, hc⟩ := ih (n / 10) (by omega) (by omega)
      exact ⟨c, r ++ [48 + n % 10], by rw [TL.numL_step (by omega), e]; rfl, hc⟩
theorem numL_0 : TL.numL 0 = [48] := TL.numL_lt (by decide)
theorem figs_num {n : Nat} (h : n < 10 ^ 40) : figs (TL.numL n) = true := by
  have l1 := TL.numL_len (by decide) h
  have l2 := TL.numL_ne n
  have l3 : 1 ≤ (TL.numL n).length := by
    cases e : TL.numL n with
    | nil => exact absurd e l2
    | cons _ _ => simp
  unfold figs
  rw [decide_eq_true ⟨l3, l1⟩]
  have a : (TL.numL n).all isFi = true := List.all_eq_true.mpr fun c hc => by
    unfold isFi
    exact decide_eq_true (TL.numL_digits n c hc)
  rw [a]
  by_cases h0 : n = 0
  · subst h0; rw [numL_0]; rfl
  · obtain ⟨c, r, e, hc⟩ := numL_head n (by omega)
    rw [e]
    have : c ≠ 48 := by omega
    simp [this]
theorem num_ne0 {n : Nat} (h : 1 ≤ n) : TL.numL n ≠ [48] := fun e => by
  obtain ⟨c, r, e2, hc⟩ := numL_head n h
  rw [e2] at e
  simp at e
  omega
theorem readA_int {a : Int} (h : a.natAbs < 10 ^ 40) : readA (intL a) = some a := by
  unfold intL
  by_cases hn : a < 0
  · rw [if_pos hn]
    show (if figs (TL.numL a.natAbs) = true ∧ TL.numL a.natAbs ≠ [48] then some (-(val (TL.numL a.natAbs) : Int)) else none) = _
    rw [if_pos ⟨figs_num h, num_ne0 (by omega)⟩]
    rw [show val (TL.numL a.natAbs) = a.natAbs from TL.numL_val _]
    congr 1; omega
  · rw [if_neg hn]
    have e : readA (TL.numL a.natAbs) = if figs (TL.numL a.natAbs) = true then some (val (TL.numL a.natAbs) : Int) else none := by
      have hd := TL.numL_digits a.natAbs
      generalize TL.numL a.natAbs = l at hd
      unfold readA
      split
      · have := hd.head; omega
      · rfl
    rw [e, if_pos (figs_num h), show val (TL.numL a.natAbs) = a.natAbs from TL.numL_val _]
    congr 1; omega
theorem intL_free (a : Int) : 47 ∉ intL a := by
  unfold intL
  have := TL.numL_free (n := a.natAbs) (s := 47) (by decide)
  split
  · simp [this]
  · exact this
theorem parA_free {p : List Nat} (h : 47 ∉ p) : parA p = p ∧ parB p = [] := by
  rcases par_cases p with ⟨_, h1, h2⟩ | ⟨r, e, _⟩
  · exact ⟨h1, h2⟩
  · exact absurd (by rw [e]; simp) h
theorem parA_app {p r : List Nat} (h : 47 ∉ p) : parA (p ++ 47 :: r) = p ∧ parB (p ++ 47 :: r) = 47 :: r := by
  unfold parA parB
  have h1 : ∀ c ∈ p, (decide (c ≠ 47)) = true := fun c hc => decide_eq_true fun z => h (by rw [← z]; exact hc)
  constructor
  · rw [List.takeWhile_append_of_pos h1]; simp
  · rw [List.dropWhile_append_of_pos h1]; simp
theorem readL_whole {a : Int} (h : a.natAbs < 10 ^ 40) : readL (intL a) = some (Rat.divInt a 1) := by
  obtain ⟨e1, e2⟩ := parA_free (intL_free a)
  unfold readL
  rw [e1, e2, readA_int h]
theorem readL_frac {a : Int} {b : Nat} (h : a.natAbs < 10 ^ 40) (hb : b < 10 ^ 40) (h0 : 1 ≤ b) : readL (intL a ++ 47 :: TL.numL b) = some (Rat.divInt a b) := by
  obtain ⟨e1, e2⟩ := parA_app (r := TL.numL b) (intL_free a)
  unfold readL
  rw [e1, e2, readA_int h]
  show (readB (TL.numL b)).map _ = _
  unfold readB
  rw [if_pos ⟨figs_num hb, num_ne0 h0⟩, show val (TL.numL b) = b from TL.numL_val _]
  rfl
/-- the text of a fraction -/
def fracL (p : Rat) : List Nat := if p.den = 1 then intL p.num else intL p.num ++ 47 :: TL.numL p.den
def fracS (p : Rat) : Str := mkS (fracL p)
theorem cs_slash : cs (Str.ofString "/") = [47] := by decide +kernel
theorem fracS_eq (p : Rat) : fracS p = if p.den = 1 then Str.ofString (toString p.num) else Str.ofString (toString p.num) ++ Str.ofString "/" ++ Str.ofString (toString (p.den : Int)) := by
  apply str_ext
  unfold fracS
  rw [cs_mkS]
  unfold fracL
  split
  · rw [cs_int]
  · rw [cs_app, cs_app, cs_int, cs_slash, show cs (Str.ofString (toString (p.den : Int))) = TL.numL p.den from TL.tl_num _]
    simp
theorem intL_len {a : Int} {k : Nat} (hk : 0 < k) (h : a.natAbs < 10 ^ k) : (intL a).length ≤ k + 1 := by
  have := TL.numL_len hk h
  unfold intL
  split
  · simp; omega
  · omega
theorem lt_2_10 {n k : Nat} (h : n < 2 ^ k) : n < 10 ^ k := Nat.lt_of_lt_of_le h (Nat.pow_le_pow_left (by decide) k)
theorem log_lt {n k : Nat} (hk : 0 < k) (h : n < 2 ^ k) : n.log2 < k := PySem.Flt.log2_lt_of hk h
def sp_fraction_text : SpD := fun ds Q _ => match ds with | [x] => ∃ p, x = fD p ∧ fits 1900 p ∧ Q (.str (fracS p)) | _ => False
theorem e_fraction_text {p : Rat} {Q : D → Prop} {E : Str → Prop} : sp_fraction_text [fD p] Q E = (fits 1900 p ∧ Q (.str (fracS p))) :=
  propext ⟨fun ⟨q, e, h⟩ => by cases fD_inj e; exact h, fun h => ⟨p, rfl, h⟩⟩
theorem str_len {a : Int} (h : a.natAbs < 2 ^ 1900) : (Str.ofString (toString a)).length ≤ 1901 := by
  rw [len_cs, cs_int]; exact intL_len (by decide) (lt_2_10 h)
theorem r_fraction_text (ds M Q E) (h : pur sp_fraction_text ds M Q E) : t_fraction_text (endsOf Q E) (startE [false] 1 ds) M := by
  obtain ⟨d, rfl, p, rfl, hf, h'⟩ := sp1 h
  clear h
  have l1 := log_lt (by decide) hf.1
  have l2 : ((p.den : Int)).natAbs.log2 < 1900 := log_lt (by decide) (by have := hf.2; omega)
  have s1 := str_len hf.1
  have s2 := str_len (a := (p.den : Int)) (by have := hf.2; omega)
  have e47 : (Str.ofString "/").length = 1 := lit_len _ _ (by decide +kernel)
  rw [fracS_eq] at h'
  simp! [t_fraction_text]
  by_cases h1 : p.den = 1
  · rw [if_pos h1] at h'
    rw [if_pos (by omega)]
    exact ⟨by omega, h'⟩
  · rw [if_neg h1] at h'
    rw [if_neg (by omega)]
    refine ⟨by omega, by omega, by omega, ?_⟩
    simp! [app_len]
    exact ⟨by omega, h'⟩
def sp_are_figures : SpD := fun ds Q _ => match ds with | [.str x] => sz x ∧ Q (.bl (figs (cs x))) | _ => False
theorem starts_iff (x y : Str) (hy : cs y ≠ []) : Txt.startswith x y = TL.pre (cs y) (cs x) := by
  have := TL.at_iff (x := x) (y := y) hy 0
  unfold Txt.startswith
  rw [Bool.eq_iff_iff, Bool.and_eq_true, decide_eq_true_eq]
  exact this
theorem starts_one (x : Str) (c : Nat) (y : Str) (hy : cs y = [c]) : Txt.startswith x y = ((cs x).head? == some c) := by
  rw [starts_iff x y (by rw [hy]; simp), hy]
  unfold TL.pre
  cases cs x with
  | nil => rfl
  | cons d r => simp
theorem eq_str {x : Str} {s : String} {l : List Nat} (h : cs (Str.ofString s) = l) : decide (x = Str.ofString s) = (cs x == l) := by
  rw [Bool.eq_iff_iff, decide_eq_true_eq, beq_iff_eq, ← h]
  exact ⟨fun e => by rw [e], fun e => str_ext e⟩
theorem r_are_figures (ds M Q E) (h : pur sp_are_figures ds M Q E) : t_are_figures (endsOf Q E) (startE [false] 2 ds) M := by
  obtain ⟨x, rfl, hs, h'⟩ := sp1s h
  clear h
  have hz := hs.ok
  rw [sizeLine_eq] at hz
  have e0 : cs (Str.ofString "0") = [48] := by decide +kernel
  simp! [t_are_figures, hz]
  rw [len_cs]
  by_cases hl : 1 ≤ (cs x).length ∧ (cs x).length ≤ 40
  · have l1 : (1 : Int) ≤ ((cs x).length : Int) := by omega
    have l2 : ((cs x).length : Int) ≤ 40 := by omega
    simp only [l1, l2, if_true, not_true_eq_false, if_false]
    refine ⟨fun i ρ M' => ((cs x).take i).all isFi = true ∧ (∃ r, ρ = [.dat (.str x), r]) ∧ M' = M, ⟨by simp, ⟨_, rfl⟩, rfl⟩, ?_, ?_⟩
    · rintro i d hd ρ M' ⟨ha, ⟨r, rfl⟩, rfl⟩
      obtain ⟨c, hc, rfl⟩ := sign_at hd
      simp! [oNotIn_c, mem_figs]
      cases hal : isFi c with
      | true => exact ⟨take_all ha hc hal, _, rfl⟩
      | false =>
        have := all_false hc hal
        unfold figs at h'
        rw [this, Bool.false_and, Bool.and_false] at h'
        exact h'
    · rintro ρ M' ⟨ha, ⟨r, rfl⟩, rfl⟩
      rw [signs_len, List.take_length] at ha
      simp! [starts_one x 48 _ e0]
      unfold figs at h'
      rw [ha, decide_eq_true hl, Bool.true_and, Bool.true_and] at h'
      have e1 := eq_str (x := x) e0
      by_cases hx : x = Str.ofString "0"
      · rw [if_pos hx]
        rw [decide_eq_true hx] at e1
        rw [← e1] at h'
        exact h'
      · rw [if_neg hx]
        rw [decide_eq_false hx] at e1
        rw [← e1] at h'
        exact h'
  · have hn : figs (cs x) = false := by unfold figs; rw [decide_eq_false hl]; rfl
    rw [hn] at h'
    by_cases l1 : (1 : Int) ≤ ((cs x).length : Int)
    · have l2 : ¬ ((cs x).length : Int) ≤ 40 := by omega
      simp only [l1, l2, if_true, if_false, not_true_eq_false, not_false_eq_true]
      exact h'
    · simp only [l1, if_true, if_false, not_true_eq_false, not_false_eq_true]
      exact h'
def sp_read_fraction : SpD := fun ds Q E => match ds with | [.str x] => sz x ∧ (match readL (cs x) with | some p => Q (fD p) | none => E "NoLine") | _ => False
theorem part_cs (x : Str) : (Txt.partition x (Str.ofString "/")) = (mkS (parA (cs x)), (if parB (cs x) = [] then Str.ofString "" else Str.ofString "/"), mkS ((parB (cs x)).drop 1)) := by
  rcases par_cases (cs x) with ⟨h1, h2, h3⟩ | ⟨r, h1, h2, h3⟩
  · rw [TL.partition_none (s := 47) (S := []) cs_slash h1, h2, h3, mkS_cs]
    rfl
  · have e : x = mkS (parA (cs x)) ++ Str.ofString "/" ++ mkS r := by
      apply str_ext
      rw [cs_app, cs_app, cs_mkS, cs_mkS, cs_slash, List.append_assoc]
      exact h1
    rw [h2]
    have := TL.partition_app (y := Str.ofString "/") (s := 47) (S := []) cs_slash (a := mkS (parA (cs x))) (b := mkS r) (by rw [show TL.tl (mkS (parA (cs x))) = parA (cs x) from cs_mkS _]; exact h3)
    rw [← e] at this
    rw [this]
    simp
theorem int_fig {l : List Nat} (h : figs l = true) : PySem.intText? (mkS l) = some (val l : Int) := by
  obtain ⟨h1, h2, _⟩ := figs_len h
  exact intText_digits (x := mkS l) (by rw [show (mkS l).cps.toList = l from cs_mkS l]; exact dig_of h2) (by rw [show (mkS l).cps.toList = l from cs_mkS l]; intro z; rw [z] at h1; simp at h1) (by rw [len_cs, cs_mkS]; omega)
theorem int_neg {l : List Nat} (h : figs l = true) : PySem.intText? (mkS (45 :: l)) = some (-(val l : Int)) := by
  obtain ⟨h1, h2, _⟩ := figs_len h
  exact intText_neg (x := mkS (45 :: l)) (cs := l) (cs_mkS _) (dig_of h2) (by intro z; rw [z] at h1; simp at h1) (by rw [len_cs, cs_mkS]; simp; omega)
theorem sz_mk {l : List Nat} (h : l.length ≤ 1000000) : sz (mkS l) := by unfold sz; rw [cs_mkS]; exact h
theorem par_len (l : List Nat) : (parA l).length ≤ l.length ∧ (parB l).length ≤ l.length := by
  unfold parA parB
  exact ⟨(List.takeWhile_sublist _).length_le, (List.dropWhile_sublist _).length_le⟩
theorem r_read_fraction (ds M Q E) (h : pur sp_read_fraction ds M Q E) : t_read_fraction (pur sp_are_figures) (pur sp_fraction) (endsOf Q E) (startE [false] 5 ds) M := by
  obtain ⟨x, rfl, hs, h'⟩ := sp1s h
  clear h
  have hz := hs.ok
  have e0 : cs (Str.ofString "0") = [48] := by decide +kernel
  have em : cs (Str.ofString "-") = [45] := by decide +kernel
  have em0 : cs (Str.ofString "-0") = [45, 48] := by decide +kernel
  have ee : cs (Str.ofString "") = [] := by decide +kernel
  have pl := par_len (cs x)
  have hsz := hs
  unfold sz at hsz
  unfold readL at h'
  have part := part_cs x
  generalize hA : parA (cs x) = A at h' part pl
  generalize hB : parB (cs x) = B at h' part pl
  have zA : (mkS A).length ≤ sizeLine := (sz_mk (by omega)).ok
  have l47 : ((Str.ofString "/").length == 0) = false := by decide +kernel
  have dA : ∀ l : List Nat, ∀ s : String, ∀ k : List Nat, cs (Str.ofString s) = k → decide (mkS l = Str.ofString s) = (l == k) := fun l s k e => by
    have := eq_str (x := mkS l) e
    rw [cs_mkS] at this; exact this
  have cutA : cutS (mkS A) (some 1) none = mkS (A.drop 1) := by
    apply str_ext
    rw [cutS_cs, cs_mkS, cs_mkS]
    show ((A.drop (min 1 A.length)).take (A.length - min 1 A.length)) = A.drop 1
    cases A with
    | nil => rfl
    | cons c r => simp
  have tail : ∀ (a : Int), PySem.intText? (mkS A) = some a → (mkS A).length ≤ 640 → readA A = some a → 
    (if (if B = [] then Str.ofString "" else Str.ofString "/") = Str.ofString "" then (∃ n, PySem.intText? (mkS A) = some n ∧ (mkS A).length ≤ 640 ∧ Q (.tup [.int n, .int 1]) M)
     else sz (mkS (B.drop 1)) ∧ (if figs (B.drop 1) = false then E "NoLine" M else (if mkS (B.drop 1) = Str.ofString "0" then E "NoLine" M else ∃ n, PySem.intText? (mkS A) = some n ∧ (mkS A).length ≤ 640 ∧ ∃ n2, PySem.intText? (mkS (B.drop 1)) = some n2 ∧ (mkS (B.drop 1)).length ≤ 640 ∧ n2 ≠ 0 ∧ Sm n2 ∧ Q (fD (Rat.divInt n n2)) M))) := fun a h1 h2 h3 => by
    rw [h3] at h'
    cases B with
    | nil =>
      rw [if_pos rfl, if_pos rfl]
      refine ⟨a, h1, h2, ?_⟩
      have e : fD (Rat.divInt a 1) = .tup [.int a, .int 1] := by
        have := divInt_self_parts (a : Rat)
        have e2 : Rat.divInt a 1 = (a : Rat) := by
          rw [← this]; rfl
        rw [e2]; rfl
      have h' : Q (fD (Rat.divInt a 1)) M := h'
      rw [e] at h'
      exact h'
    | cons c r =>
      have h' : match (readB r).map (fun b => Rat.divInt a b) with | some p => Q (fD p) M | none => E "NoLine" M := h'
      rw [if_neg (show ¬ (c :: r = []) by simp), if_neg (fun z => by have := congrArg cs z; rw [cs_slash, ee] at this; simp at this)]
      refine ⟨sz_mk (by have := pl.2; rw [List.length_cons] at this; show r.length ≤ 1000000; omega), ?_⟩
      show (if figs r = false then E "NoLine" M else (if mkS r = Str.ofString "0" then E "NoLine" M else _))
      have d0 := dA r "0" _ e0
      unfold readB at h'
      by_cases hf : figs r = true
      · rw [if_neg (show ¬ figs r = false by rw [hf]; simp)]
        by_cases h0 : r = [48]
        · rw [if_pos (by subst h0; exact of_decide_eq_true (by rw [d0]; simp))]
          rw [if_neg (fun z => z.2 h0)] at h'
          exact h'
        · rw [if_neg (fun z => h0 (by have := decide_eq_true z; rw [d0] at this; simpa using this))]
          rw [if_pos ⟨hf, h0⟩] at h'
          have hv := val_pos hf h0
          have hv2 := val_lt40 hf
          have := (figs_len hf).1
          exact ⟨a, h1, h2, (val r : Int), int_fig hf, by rw [len_cs, List.drop_one, List.tail_cons, cs_mkS]; omega, by omega, sm_lit (by omega) (by omega), h'⟩
      · rw [if_pos (by simpa using hf)]
        rw [if_neg (fun z => hf z.1)] at h'
        exact h'
  simp! [t_read_fraction, hz, l47, part, starts_one _ 45 _ em, cs_mkS, cutA, zA, sp_are_figures, sp_fraction]
  rw [sizeLine_eq] at hz zA
  refine ⟨hz, ?_⟩
  have dm := dA A "-0" _ em0
  have no : readA A = none → E "NoLine" M := fun z => by rw [z] at h'; exact h'
  cases A with
  | nil =>
    rw [if_neg (by simp)]
    refine ⟨sz_mk (by simp), ?_⟩
    rw [if_pos (by rfl)]
    exact no rfl
  | cons c r =>
    by_cases hc : c = 45
    · subst hc
      rw [if_pos (by simp)]
      refine ⟨zA, sz_mk (by have := pl.1; rw [List.length_cons] at this; show r.length ≤ 1000000; omega), ?_⟩
      show (if figs r = false then E "NoLine" M else _)
      have e : readA (45 :: r) = if figs r = true ∧ r ≠ [48] then some (-(val r : Int)) else none := rfl
      cases hf : figs r with
      | false => rw [if_pos rfl]; exact no (by rw [e, if_neg (fun z => by rw [hf] at z; exact absurd z.1 (by simp))])
      | true =>
        rw [if_neg (by simp)]
        by_cases h0 : r = [48]
        · subst h0
          rw [if_pos (of_decide_eq_true (by rw [dm]; rfl))]
          exact no (by rw [e, if_neg (fun z => z.2 rfl)])
        · rw [if_neg (fun z => by have := decide_eq_true z; rw [dm] at this; simp at this; exact h0 this)]
          have := (figs_len hf).1
          exact tail _ (int_neg hf) (by rw [len_cs, cs_mkS, List.length_cons]; omega) (by rw [e, if_pos ⟨hf, h0⟩])
    · rw [if_neg (by simpa using hc)]
      refine ⟨sz_mk (by have := pl.1; omega), ?_⟩
      have e : readA (c :: r) = if figs (c :: r) = true then some (val (c :: r) : Int) else none := by
        unfold readA
        split
        · rename_i z; exact absurd (List.cons.inj z).1 hc
        · rfl
      cases hf : figs (c :: r) with
      | false => rw [if_pos rfl]; exact no (by rw [e, if_neg (by rw [hf]; simp)])
      | true =>
        rw [if_neg (by simp)]
        rw [if_neg (fun z => by have := decide_eq_true z; rw [dm] at this; simp at this; exact hc this.1)]
        have := (figs_len hf).1
        exact tail _ (int_fig hf) (by rw [len_cs, cs_mkS]; omega) (by rw [e, if_pos hf])

end Z

namespace Z
open PySem L2
local macro_rules | `(tactic| simp! [$xs,*]) => `(tactic| simp only [$xs,*, ↓dSeq, ↓dAsg, ↓dOp, ↓dVar, ↓dVarR, ↓dC, ↓dCall, ↓dCons, ↓dNil, ↓dIf, ↓dRet, ↓dRetN, ↓dTup, ↓dTst, ↓dNeg, ↓dNext, ↓dCB, ↓dLstOf, ↓dLst, ↓dCat, ↓dSlL, ↓dSlS, ↓dONone, ↓dOSome, ↓dList1, ↓dChain, ↓dChain3, ↓dAndT, ↓dOrT, ↓dNotT, ↓dAndV, ↓dOrV, ↓dNotV, ↓dIfE, ↓dTru, ↓dOwn, ↓dAsgG, ↓dPar, ↓dDrop, ↓dAugI, ↓dBreak, ↓dCont, ↓dgName, ↓dgNil, ↓dgCons, ↓dgTup, ↓dFrz, ↓frzE, ↓dItA, ↓dItB, ↓dRng1, ↓dRng2, ↓dEnum, ↓dFor, ↓dSM, ↓dSM0, ↓dRepN, ↓dLc, ↓dYes, ↓wipeE, ↓dStore, ↓dLmut, ↓lmPre, ↓lmAt, ↓isLst, ↓kNx, ↓kSet, ↓lmAppend, ↓lmExtend, ↓lmPop, ↓lmPopAt, ↓lmClear, ↓lmInsert, ↓lmSet, ↓dAugL, ↓dAugS, ↓lmAugS, ↓dMake, ↓dMake0, ↓dMeth, ↓dFld, ↓dSetF, ↓dTry, ↓dTryM, ↓exM, ↓dRaise, ↓endsOf, ↓startE, ↓entOf, ↓ga, ↓pur, ↓dDnew, ↓dDput, ↓dDget, ↓dDsetd, ↓dLmX, ↓dFrzM, ↓dZip, ↓dZipM, ↓dListRev, ↓oListRev, ↓dOrG, ↓dLstM, ↓onDic, ↓onDicR, ↓onLst, ↓obD, ↓dVarP, ↓dItC, ↓onIns, ↓endsW, ↓dLidx, ↓isLD, ↓oIdx, ↓dTake, ↓dLendT, ↓dLendE, ↓lendE, ↓lend1, ↓dFzv, ↓fzv, ↓dStoreX, ↓dLidxD, ↓dGive, ↓dZip3, ↓dListD, ↓drf_int, ↓drf_str, ↓drf_bl, ↓drf_non, ↓drf_lst, ↓drf_tup, ↓drf_obj, ↓drf_dic, ↓drf_cls, ↓drf_exc, ↓drf_ty, ↓drf_ref, ↓drfO_dic, ↓drfO_lst, ↓drfO_ins, ↓drfO_non, ↓oLen_d, ↓oIn_d, ↓oNotIn_d, ↓oIn_dt, ↓oNotIn_dt, ↓kOkB_s, ↓kOkB_i, ↓oAdd_i, ↓oAdd_s, ↓oAdd_t, ↓oAdd_l, ↓oSub_i, ↓oMul_i, ↓oMulW_i, ↓oMulA_i, ↓oMulA_s, ↓oFdiv_i, ↓oMod_i, ↓oPow_i, ↓oLt_i, ↓oLtA_i, ↓oLe_i, ↓oGt_i, ↓oGe_i, ↓oEq_i, ↓oEq_s, ↓oEq_b, ↓oEq_nn, ↓oEq_ni, ↓oEq_in, ↓oEq_ns, ↓oEq_sn, ↓oNe_i, ↓oNe_s, ↓oNe_b, ↓oNe_nn, ↓oNe_ni, ↓oNe_in, ↓oNe_ns, ↓oNe_sn, ↓oIsN_, ↓oNotN_, ↓isNon_int, ↓isNon_str, ↓isNon_bl, ↓isNon_non, ↓isNon_lst, ↓isNon_tup, ↓isNon_obj, ↓isNon_exc, ↓isNon_dic, ↓oLen_s, ↓oLen_l, ↓oLen_t, ↓oAbs_, ↓oMax2_, ↓oMin2_, ↓oMinT_, ↓oMaxT_, ↓oInt1_i, ↓oInt1_b, ↓oInt1_s, ↓oStr1_, ↓oTuple1_l, ↓oTuple1_t, ↓oList1_l, ↓oList1_t, ↓oListD_d, ↓oCat_l, ↓truD_n, ↓truD_b, ↓truD_i, ↓truD_s, ↓truD_l, ↓truD_t, ↓onStr_s, ↓soStarts_, ↓soUpper_, ↓soLower_, ↓soIsupper_, ↓soFind_, ↓soStrip_, ↓soPart_, ↓soSplit_, ↓soJoin_l, ↓soJoin_t, ↓oSlL_l, ↓oSlS_l, ↓oSlS_t, ↓oSlS_s, ↓isi_int_int, ↓isi_int_str, ↓isi_int_bool, ↓isi_int_NoneType, ↓isi_int_list, ↓isi_int_tuple, ↓isi_bool_int, ↓isi_bool_str, ↓isi_bool_bool, ↓isi_bool_NoneType, ↓isi_bool_list, ↓isi_bool_tuple, ↓isi_tuple_int, ↓isi_tuple_str, ↓isi_tuple_bool, ↓isi_tuple_NoneType, ↓isi_tuple_list, ↓isi_tuple_tuple, ↓isi_str_int, ↓isi_str_str, ↓isi_str_bool, ↓isi_str_NoneType, ↓isi_str_list, ↓isi_str_tuple, ↓isi_list_int, ↓isi_list_str, ↓isi_list_bool, ↓isi_list_NoneType, ↓isi_list_list, ↓isi_list_tuple, ↓oIx_t0, ↓oIx_l0, ↓oIx_t1, ↓oIx_l1, ↓oIx_t2, ↓oIx_l2, ↓oIx_t3, ↓oIx_l3, ↓oIx_t4, ↓oIx_l4, ↓oIx_t5, ↓oIx_l5, ↓oIx_f0, ↓oIx_f1, ↓drf_fD, ↓oLen_f, ↓isi_tuple_f, ↓isi_int_f, ↓eq_fD, ↓ne_fD, ofS_inj, mem_ofS, mem_ofS0, putD_nil, putD_cons, updM_same, String.reduceEq, Nat.reduceLT, true_or, or_true, false_or, or_false, true_and, and_true, false_and, and_false, List.set_cons_zero, List.set_cons_succ, List.map_cons, List.map_nil, if_true, if_false, Bool.false_eq_true, decide_eq_true_eq, List.length_cons, List.length_nil, Int.reduceNe, Int.reduceLT, Int.reduceLE, Int.reduceEq, Int.reduceToNat, Int.reducePow, Int.reduceNeg, Int.reduceAdd, Int.reduceMul, Int.reduceSub, Nat.reduceAdd, Nat.reduceLeDiff, Nat.reduceEqDiff, Int.cast_ofNat_Int, Bool.true_eq_false, ite_not, sizeLine_eq, true_and, and_true, and_self, Int.fmod_eq_emod_of_nonneg, Int.fdiv_eq_ediv_of_nonneg, Bool.not_true, Bool.not_false, Bool.not_eq_true', decide_eq_false_iff_not, decide_true, decide_false])
def t_l_names (p_l_mix : SpM) : DTS :=
 (dSeq (dAsg 3 (dC (.str "abcdefghijklmnopqrstuvwxyz0123456789ABCDEFGHIJKLMNOPQRSTUVWXYZ")))
 (dSeq (dAsg 4 (dCall p_l_mix (dCons (dVar 0) (dCons (dC (.int 0)) dNil))))
 (dSeq (dAsg 5 (dOp oMod (dOp oFdiv (dVarR 4) (dC (.int 5))) (dCB oLen (dCons (dVarR 2) dNil))))
 (dSeq (dAsg 6 (dSM soJoin (dC (.str "")) (dCons (dLstOf (dLc (dRng1 (dCons (dC (.int 11)) dNil)) (dgName 9) dYes (dOp oIx (dVarR 3) (dOp oMod (dOp oAdd (dOp oFdiv (dVarR 4) (dOp oAdd (dVarR 9) (dC (.int 1)))) (dOp oMulA (dVarR 9) (dVarR 9))) (dC (.int 62)))) [9])) dNil)))
 (dSeq (dIf (dTst (dOp oEq (dOp oMod (dVarR 4) (dC (.int 3))) (dC (.int 0)))) (dRet (dLstOf (dLc (dRng1 (dCons (dVarR 1) dNil)) (dgName 10) dYes (dOp oAdd (dOp oIx (dVarR 2) (dVarR 5)) (dSlS (dVarR 6) dONone (dOSome (dVarR 10)))) [10]))) dNext)
 (dSeq (dIf (dTst (dOp oEq (dOp oMod (dVarR 4) (dC (.int 3))) (dC (.int 1)))) (dSeq (dAsg 7 (dOp oMod (dOp oFdiv (dVarR 4) (dC (.int 3))) (dC (.int 12))))
 (dRet (dLstOf (dLc (dRng1 (dCons (dVarR 1) dNil)) (dgName 10) dYes (dOp oAdd (dOp oIx (dVarR 2) (dOp oMod (dOp oAdd (dVarR 5) (dVarR 10)) (dCB oLen (dCons (dVarR 2) dNil)))) (dSlS (dVarR 6) dONone (dOSome (dVarR 7)))) [10])))) dNext)
 (dSeq (dAsg 7 (dOp oMod (dOp oFdiv (dVarR 4) (dC (.int 3))) (dC (.int 11))))
 (dSeq (dAsg 8 (dOp oMod (dOp oFdiv (dVarR 4) (dC (.int 33))) (dOp oAdd (dVarR 7) (dC (.int 1)))))
 (dSeq (dAsg 3 (dLstOf (dLc (dRng1 (dCons (dVarR 1) dNil)) (dgName 10) dYes (dOp oIx (dVarR 3) (dOp oMod (dOp oAdd (dOp oFdiv (dVarR 4) (dC (.int 7))) (dVarR 10)) (dC (.int 62)))) [10])))
 (dRet (dLstOf (dLc (dItA (dVar 3)) (dgName 11) dYes (dOp oAdd (dOp oAdd (dOp oAdd (dOp oIx (dVarR 2) (dVarR 5)) (dSlS (dVarR 6) dONone (dOSome (dVarR 8)))) (dVarR 11)) (dSlS (dVarR 6) (dOSome (dVarR 8)) (dOSome (dVarR 7)))) [11]))))))))))))

/-! ### drawn names -/
theorem strs_of {acc : List D} {g : Nat → List Nat} (h : ∀ (i : Nat) d, acc[i]? = some d → ∃ w : Str, d = .str w ∧ cs w = g i) : ∃ ws : List Str, acc = ws.map .str ∧ ws.length = acc.length ∧ ∀ (i : Nat) w, ws[i]? = some w → cs w = g i := by
  induction acc generalizing g with
  | nil => exact ⟨[], rfl, rfl, fun i w e => by simp at e⟩
  | cons d acc ih =>
    obtain ⟨w, rfl, hw⟩ := h 0 d rfl
    obtain ⟨ws, e1, e2, e3⟩ := ih (g := fun i => g (i + 1)) fun i d e => h (i + 1) d e
    refine ⟨w :: ws, by rw [e1]; rfl, by simp [e2], fun i w' e => ?_⟩
    cases i with
    | zero => simp at e; subst e; exact hw
    | succ i => exact e3 i w' (by simpa using e)
theorem nodup_of {ws : List Str} {g : Nat → List Nat} (h : ∀ (i : Nat) w, ws[i]? = some w → cs w = g i) (hg : ∀ i j, i < ws.length → j < ws.length → g i = g j → i = j) : ws.Nodup := by
  refine List.pairwise_iff_getElem.mpr fun i j hi hj hij e => ?_
  have e1 := h i _ (List.getElem?_eq_getElem hi)
  have e2 := h j _ (List.getElem?_eq_getElem hj)
  rw [e] at e1
  have := hg i j hi hj (e1.symm.trans e2)
  omega
theorem cs_one (c : Nat) : cs ⟨#[c]⟩ = [c] := rfl
theorem mod_inj {s a b L : Int} (hL : 0 < L) (ha : 0 ≤ a ∧ a < L) (hb : 0 ≤ b ∧ b < L) (e : (s + a) % L = (s + b) % L) : a = b := by
  have h1 := Int.emod_eq_emod_iff_emod_sub_eq_zero.mp e
  obtain ⟨k, hk⟩ := Int.dvd_of_emod_eq_zero h1
  rcases Int.lt_trichotomy k 0 with h | h | h
  · have := Int.mul_le_mul_of_nonneg_left (show k ≤ -1 by omega) (show 0 ≤ L by omega)
    omega
  · subst h; omega
  · have := Int.mul_le_mul_of_nonneg_left (show 1 ≤ k by omega) (show 0 ≤ L by omega)
    omega
theorem getD_inj {l : List Nat} (hn : l.Nodup) {a b : Nat} (ha : a < l.length) (hb : b < l.length) (e : l.getD a 0 = l.getD b 0) : a = b := by
  rw [List.getD_eq_getElem?_getD, List.getD_eq_getElem?_getD, List.getElem?_eq_getElem ha, List.getElem?_eq_getElem hb] at e
  exact (List.getElem_inj hn).mp e
def nameOf (f : Str) (w : Str) : Prop := nameB w = true ∧ ∃ c r, cs w = c :: r ∧ c ∈ cs f
def sp_l_names : SpD := fun ds Q _ => match ds with
  | [.int _, .int n, .str f] => 0 ≤ n ∧ n ≤ 12 ∧ n ≤ (cs f).length ∧ 1 ≤ (cs f).length ∧ (cs f).length ≤ 100 ∧ (cs f).Nodup ∧ (∀ c ∈ cs f, alnum c = true) ∧ ∀ ws : List Str, ws.length = n.toNat → ws.Nodup → (∀ w ∈ ws, nameOf f w) → Q (.lst (ws.map .str))
  | _ => False
theorem join_P {acc : List D} {P : Nat → Prop} {Q : D → Prop} (h : ∀ (i : Nat) d, acc[i]? = some d → ∃ c, d = .str ⟨#[c]⟩ ∧ P c) (hl : acc.length ≤ 100000) (q : ∀ x : Str, (cs x).length = acc.length → (∀ c ∈ cs x, P c) → Q (.str x)) : joinD (Str.ofString "") acc Q := by
  obtain ⟨l, h1, h2⟩ := ones (fun i d e => let ⟨c, e1, _⟩ := h i d e; ⟨c, e1⟩)
  have hp : ∀ c ∈ l, P c := fun c hc => by
    obtain ⟨i, hi, e⟩ := List.getElem_of_mem hc
    have e2 : acc[i]? = some (.str ⟨#[c]⟩) := by
      rw [h2, List.getElem?_map, List.getElem?_map, List.getElem?_eq_getElem hi, e]; rfl
    obtain ⟨c', e3, hc'⟩ := h i _ e2
    injection e3 with e3
    injection e3 with e3
    have : c = c' := by simpa using e3
    rw [this]; exact hc'
  have e2 : ((l.map fun c => (⟨#[c]⟩ : Str)).map cs).flatten = l := by
    clear h1 h2 hp
    induction l with
    | nil => rfl
    | cons c r ih => simp only [List.map_cons, List.flatten_cons, ih]; rfl
  have e3 : ((l.map fun c => (⟨#[c]⟩ : Str)).map (·.length)).sum = l.length := by
    clear h1 h2 e2 hp
    induction l with
    | nil => rfl
    | cons c r ih =>
      simp only [List.map_cons, List.sum_cons, List.length_cons, ih]
      show 1 + r.length = r.length + 1
      omega
  refine ⟨l.map fun c => (⟨#[c]⟩ : Str), by rw [h2, strsD_map], ?_, q _ ?_ ?_⟩
  · have e0 : (Str.ofString "").length = 0 := by rw [len_cs, cs_empty]; rfl
    rw [e3, e0]; omega
  · rw [cs_join0, e2, h1]
  · rw [cs_join0, e2]; exact hp
def sgs : Str := "abcdefghijklmnopqrstuvwxyz0123456789ABCDEFGHIJKLMNOPQRSTUVWXYZ"
theorem sgs_len : (cs sgs).length = 62 := by decide +kernel
theorem sgs_nd : (cs sgs).Nodup := by decide +kernel
theorem sgs_an : ∀ c ∈ cs sgs, alnum c = true := by decide +kernel
theorem r_l_names (ds M Q E) (h : pur sp_l_names ds M Q E) : t_l_names (pur sp_l_mix) (endsOf Q E) (startE [false, false, false] 12 ds) M := by
  unfold pur sp_l_names at h
  dsimp only at h
  split at h
  · rename_i c n f
    obtain ⟨n0, n1, n2, f0, f1, fn, fa, h⟩ := h
    have m0 := mix_lo c 0
    have m1 := mix_hi c 0
    have k0 : kOk 0 := ⟨by decide, by decide⟩
    simp! [t_l_names, sp_l_mix, k0]
    generalize mix c 0 = m at *
    have fz : f.length = (cs f).length := len_cs f
    have sm : ∀ i : Int, 0 ≤ i → i < 100000 → Sm i := fun i h1 h2 => sm_lit (by omega) (by omega)
    refine ⟨sm _ (by decide) (by decide), by omega, by omega, ?_⟩
    refine lc_all (fun _ d => ∃ c, d = .str ⟨#[c]⟩ ∧ alnum c = true) (by rw [rng_len]; decide) (fun i x hx K N hk => ?_) fun acc a1 a2 => ?_
    · obtain ⟨hi, rfl⟩ := rng_at hx
      simp! [dSeq]
      have hq : 0 ≤ (m.fdiv (0 + (i : Int) + 1) + (0 + (i : Int)) * (0 + (i : Int))) % 62 ∧ (m.fdiv (0 + (i : Int) + 1) + (0 + (i : Int)) * (0 + (i : Int))) % 62 < 62 := ⟨Int.emod_nonneg _ (by decide), Int.emod_lt_of_pos _ (by decide)⟩
      refine ⟨by omega, sm _ (by omega) (by omega), sm _ (by omega) (by omega), sm _ (by omega) (by omega), ?_⟩
      exact ix_str hq.1 (by rw [show (cs (Str.ofString "abcdefghijklmnopqrstuvwxyz0123456789ABCDEFGHIJKLMNOPQRSTUVWXYZ")).length = 62 from sgs_len]; exact hq.2) (by rw [len_cs, show (cs (Str.ofString "abcdefghijklmnopqrstuvwxyz0123456789ABCDEFGHIJKLMNOPQRSTUVWXYZ")).length = 62 from sgs_len, sizeLine_eq]; decide) fun c hc => hk _ ⟨c, rfl, sgs_an c (List.mem_of_getElem? hc)⟩
    · refine join_P a2 (by rw [a1, rng_len]; decide) fun T t1 t2 => ?_
      rw [a1, rng_len] at t1
      clear a2
      have fin : ∀ g : Nat → List Nat, (∀ i, i < n.toNat → (g i).length ≤ 12 ∧ (∀ c ∈ g i, alnum c = true) ∧ ∃ c r, g i = c :: r ∧ c ∈ cs f) → (∀ i j, i < n.toNat → j < n.toNat → g i = g j → i = j) → ∀ acc : List D, acc.length = n.toNat → (∀ (i : Nat) d, acc[i]? = some d → ∃ w : Str, d = .str w ∧ cs w = g i) → Q (.lst acc) M := fun g g1 g2 acc e1 e2 => by
        obtain ⟨ws, rfl, w1, w2⟩ := strs_of e2
        simp only [List.length_map] at e1
        refine h ws e1 (nodup_of w2 fun i j hi hj => g2 i j (by omega) (by omega)) fun w hw => ?_
        obtain ⟨i, hi, e⟩ := List.getElem_of_mem hw
        have e3 := w2 i w (by rw [List.getElem?_eq_getElem hi, e])
        obtain ⟨x1, x2, c, r, x3, x4⟩ := g1 i (by omega)
        refine ⟨?_, c, r, by rw [e3, x3], x4⟩
        unfold nameB
        rw [e3]
        rw [Bool.and_eq_true, decide_eq_true_eq, List.all_eq_true]
        exact ⟨⟨by rw [x3]; simp, x1⟩, x2⟩
      have s0 : 0 ≤ (m / 5).fmod (f.length : Int) ∧ (m / 5).fmod (f.length : Int) < (cs f).length := by
        rw [Int.fmod_eq_emod_of_nonneg _ (by omega), fz]
        exact ⟨Int.emod_nonneg _ (by omega), Int.emod_lt_of_pos _ (by omega)⟩
      generalize (m / 5).fmod (f.length : Int) = s at s0 ⊢
      have hT : T.length = 11 := by rw [len_cs, t1]
      have tk1 : ∀ k : Int, 0 ≤ k → cs (cutS T none (some k)) = (cs T).take k.toNat := fun k hk => by
        rw [cutS_cs, HT.sIx_none, List.drop_zero]
        show (cs T).take ((if k < 0 then _ else min k.toNat (cs T).length) - 0) = _
        rw [if_neg (by omega), Nat.sub_zero, t1]
        by_cases hh : k.toNat ≤ 11
        · rw [Nat.min_eq_left hh]
        · rw [Nat.min_eq_right (by omega), List.take_of_length_le (by omega), List.take_of_length_le (by omega)]
      have fget : ∀ k : Int, 0 ≤ k → k < (cs f).length → ∃ c, (cs f)[k.toNat]? = some c ∧ c ∈ cs f := fun k h1 h2 => ⟨_, List.getElem?_eq_getElem (by omega), List.getElem_mem _⟩
      have fl : f.length ≤ sizeLine := by rw [sizeLine_eq]; omega
      split
      · obtain ⟨c0, hc0, mc0⟩ := fget s s0.1 s0.2
        refine ⟨by omega, by omega, lc_all (fun i d => ∃ w : Str, d = .str w ∧ cs w = c0 :: (cs T).take i) (by rw [rng_len]; omega) (fun i x hx K N hk => ?_) fun acc b1 b2 => ?_⟩
        · obtain ⟨hi, rfl⟩ := rng_at hx
          simp! [dSeq]
          rw [oIx_s (n := s.toNat) (by omega) hc0]
          have hc := cutS_length T none (some (0 + (i : Int)))
          refine ⟨fl, by omega, ?_⟩
          simp! [one_len]
          refine ⟨by omega, hk _ ⟨_, rfl, ?_⟩⟩
          rw [cs_app, tk1 _ (by omega), cs_one]
          simp
        · rw [rng_len] at b1
          refine fin (fun i => c0 :: (cs T).take i) (fun i hi => ⟨by simp; omega, ?_, c0, _, rfl, mc0⟩) (fun i j hi hj e => ?_) acc b1 b2
          · intro c hc
            rcases List.mem_cons.mp hc with e | e
            · rw [e]; exact fa _ mc0
            · exact t2 c (List.mem_of_mem_take e)
          · have := congrArg List.length e
            simp only [List.length_cons, List.length_take, t1] at this
            omega
      · split
        · refine ⟨sm _ (by decide) (by decide), by omega, by omega, lc_all (fun i d => ∃ w : Str, d = .str w ∧ cs w = (cs f).getD ((s + i) % (cs f).length).toNat 0 :: (cs T).take (m / 3 % 12).toNat) (by rw [rng_len]; omega) (fun i x hx K N hk => ?_) fun acc b1 b2 => ?_⟩
          · obtain ⟨hi, rfl⟩ := rng_at hx
            simp! [dSeq]
            have e1 : (s + (0 + (i : Int))).fmod (f.length : Int) = (s + i) % ((cs f).length : Int) := by
              rw [Int.fmod_eq_emod_of_nonneg _ (by omega), fz, Int.zero_add]
            have r0 := Int.emod_nonneg (s + i) (show ((cs f).length : Int) ≠ 0 by omega)
            have r1 := Int.emod_lt_of_pos (s + i) (show (0 : Int) < (cs f).length by omega)
            obtain ⟨c0, hc0, mc0⟩ := fget _ r0 r1
            have hc := cutS_length T none (some (m / 3 % 12))
            refine ⟨by omega, by omega, ?_⟩
            rw [e1, oIx_s (n := ((s + i) % ((cs f).length : Int)).toNat) (by omega) hc0]
            refine ⟨fl, by omega, ?_⟩
            simp! [one_len]
            refine ⟨by omega, hk _ ⟨_, rfl, ?_⟩⟩
            rw [cs_app, tk1 _ (by omega), List.getD_eq_getElem?_getD, hc0, cs_one]
            simp
          · rw [rng_len] at b1
            have hd : ∀ i : Nat, ∃ c, (cs f)[((s + i) % ((cs f).length : Int)).toNat]? = some c ∧ c ∈ cs f := fun i => fget _ (Int.emod_nonneg _ (by omega)) (Int.emod_lt_of_pos _ (by omega))
            refine fin (fun i => (cs f).getD ((s + i) % (cs f).length).toNat 0 :: (cs T).take (m / 3 % 12).toNat) (fun i hi => ⟨by simp; omega, ?_, _, _, rfl, ?_⟩) (fun i j hi hj e => ?_) acc b1 b2
            · intro c hc
              rcases List.mem_cons.mp hc with e | e
              · obtain ⟨c0, hc0, mc0⟩ := hd i
                rw [e, List.getD_eq_getElem?_getD, hc0]; exact fa _ mc0
              · exact t2 c (List.mem_of_mem_take e)
            · obtain ⟨c0, hc0, mc0⟩ := hd i
              rw [List.getD_eq_getElem?_getD, hc0]; exact mc0
            · injection e with e _
              have x0 := Int.emod_nonneg (s + i) (show ((cs f).length : Int) ≠ 0 by omega)
              have x1 := Int.emod_lt_of_pos (s + i) (show (0 : Int) < (cs f).length by omega)
              have y0 := Int.emod_nonneg (s + j) (show ((cs f).length : Int) ≠ 0 by omega)
              have y1 := Int.emod_lt_of_pos (s + j) (show (0 : Int) < (cs f).length by omega)
              have e2 := getD_inj fn (by omega) (by omega) e
              have := mod_inj (s := s) (a := i) (b := j) (L := (cs f).length) (by omega) ⟨by omega, by omega⟩ ⟨by omega, by omega⟩ (by omega)
              omega
        · have z0 : 0 ≤ m / 3 % 11 ∧ m / 3 % 11 < 11 := by omega
          have a0 : 0 ≤ (m / 33).fmod (m / 3 % 11 + 1) ∧ (m / 33).fmod (m / 3 % 11 + 1) ≤ m / 3 % 11 := by
            rw [Int.fmod_eq_emod_of_nonneg _ (by omega)]
            have h1 := Int.emod_nonneg (m / 33) (show m / 3 % 11 + 1 ≠ 0 by omega)
            have h2 := Int.emod_lt_of_pos (m / 33) (show 0 < m / 3 % 11 + 1 by omega)
            omega
          generalize (m / 33).fmod (m / 3 % 11 + 1) = at' at a0 ⊢
          generalize m / 3 % 11 = z at z0 a0 ⊢
          obtain ⟨c0, hc0, mc0⟩ := fget s s0.1 s0.2
          have sl : (Str.ofString "abcdefghijklmnopqrstuvwxyz0123456789ABCDEFGHIJKLMNOPQRSTUVWXYZ").length ≤ sizeLine := by rw [len_cs, show (cs (Str.ofString "abcdefghijklmnopqrstuvwxyz0123456789ABCDEFGHIJKLMNOPQRSTUVWXYZ")).length = 62 from sgs_len, sizeLine_eq]; decide
          have rget : ∀ k : Int, 0 ≤ k → k < 62 → (cs sgs)[k.toNat]? = some ((cs sgs).getD k.toNat 0) := fun k h1 h2 => by
            have := sgs_len
            rw [List.getD_eq_getElem?_getD, List.getElem?_eq_getElem (by omega)]; rfl
          refine ⟨sm _ (by decide) (by decide), sm _ (by decide) (by decide), by omega, by omega, by omega, lc_all (fun i d => d = .str ⟨#[(cs sgs).getD ((m / 7 + i) % 62).toNat 0]⟩) (by rw [rng_len]; omega) (fun i x hx K N hk => ?_) fun acc2 b1 b2 => ?_⟩
          · obtain ⟨hi, rfl⟩ := rng_at hx
            simp! [dSeq]
            rw [Int.zero_add]
            refine ⟨sm _ (by decide) (by decide), ?_⟩
            rw [oIx_s (z := Str.ofString "abcdefghijklmnopqrstuvwxyz0123456789ABCDEFGHIJKLMNOPQRSTUVWXYZ") (i := (m / 7 + (i : Int)) % 62) (n := ((m / 7 + (i : Int)) % 62).toNat) (by omega) (rget _ (by omega) (by omega))]
            exact ⟨sl, hk _ rfl⟩
          · rw [rng_len] at b1
            simp! [dLc]
            refine lc_all (fun i d => ∃ w : Str, d = .str w ∧ cs w = c0 :: ((cs T).take at'.toNat ++ [(cs sgs).getD ((m / 7 + i) % 62).toNat 0] ++ ((cs T).drop at'.toNat).take (z.toNat - at'.toNat))) (by omega) (fun i x hx K N hk => ?_) fun acc3 d1 d2 => ?_
            · have e1 := b2 i x hx
              subst e1
              simp! [dSeq]
              rw [oIx_s (n := s.toNat) (by omega) hc0]
              have q1 := cutS_length T none (some at')
              have q2 := cutS_length T (some at') (some z)
              refine ⟨fl, by omega, ?_⟩
              simp! [one_len, app_len]
              refine ⟨by omega, by omega, by omega, by omega, hk _ ⟨_, rfl, ?_⟩⟩
              rw [cs_app, cs_app, cs_app, tk1 _ (by omega), cs_one, cs_one, cutS_cs]
              have e1 : HT.sIx (cs T).length 0 (some at') = at'.toNat := by
                show (if at' < 0 then _ else min at'.toNat (cs T).length) = _
                rw [if_neg (by omega), t1]; omega
              have e2 : HT.sIx (cs T).length (cs T).length (some z) = z.toNat := by
                show (if z < 0 then _ else min z.toNat (cs T).length) = _
                rw [if_neg (by omega), t1]; omega
              rw [e1, e2]
              simp
            · refine fin (fun i => c0 :: ((cs T).take at'.toNat ++ [(cs sgs).getD ((m / 7 + i) % 62).toNat 0] ++ ((cs T).drop at'.toNat).take (z.toNat - at'.toNat))) (fun i hi => ⟨by simp; omega, ?_, c0, _, rfl, mc0⟩) (fun i j hi hj e => ?_) acc3 (by omega) d2
              · intro c hc
                have e3 := rget ((m / 7 + i) % 62) (by omega) (by omega)
                simp only [List.mem_cons, List.mem_append, List.not_mem_nil, or_false] at hc
                rcases hc with e | (e | e) | e
                · rw [e]; exact fa _ mc0
                · exact t2 c (List.mem_of_mem_take e)
                · rw [e]; exact sgs_an _ (List.mem_of_getElem? e3)
                · exact t2 c (List.mem_of_mem_drop (List.mem_of_mem_take e))
              · have e4 := (List.cons.inj e).2
                rw [List.append_assoc, List.append_assoc] at e4
                have e5 := List.append_cancel_left e4
                have e6 := (List.cons.inj e5).1
                have sl2 := sgs_len
                have e7 := getD_inj sgs_nd (by omega) (by omega) e6
                have := mod_inj (s := m / 7) (a := i) (b := j) (L := 62) (by omega) ⟨by omega, by omega⟩ ⟨by omega, by omega⟩ (by omega)
                omega
  · exact h.elim

end Z

namespace Z
open PySem L2
local macro_rules | `(tactic| simp! [$xs,*]) => `(tactic| simp only [$xs,*, ↓dSeq, ↓dAsg, ↓dOp, ↓dVar, ↓dVarR, ↓dC, ↓dCall, ↓dCons, ↓dNil, ↓dIf, ↓dRet, ↓dRetN, ↓dTup, ↓dTst, ↓dNeg, ↓dNext, ↓dCB, ↓dLstOf, ↓dLst, ↓dCat, ↓dSlL, ↓dSlS, ↓dONone, ↓dOSome, ↓dList1, ↓dChain, ↓dChain3, ↓dAndT, ↓dOrT, ↓dNotT, ↓dAndV, ↓dOrV, ↓dNotV, ↓dIfE, ↓dTru, ↓dOwn, ↓dAsgG, ↓dPar, ↓dDrop, ↓dAugI, ↓dBreak, ↓dCont, ↓dgName, ↓dgNil, ↓dgCons, ↓dgTup, ↓dFrz, ↓frzE, ↓dItA, ↓dItB, ↓dRng1, ↓dRng2, ↓dEnum, ↓dFor, ↓dSM, ↓dSM0, ↓dRepN, ↓dLc, ↓dYes, ↓wipeE, ↓dStore, ↓dLmut, ↓lmPre, ↓lmAt, ↓isLst, ↓kNx, ↓kSet, ↓lmAppend, ↓lmExtend, ↓lmPop, ↓lmPopAt, ↓lmClear, ↓lmInsert, ↓lmSet, ↓dAugL, ↓dAugS, ↓lmAugS, ↓dMake, ↓dMake0, ↓dMeth, ↓dFld, ↓dSetF, ↓dTry, ↓dTryM, ↓exM, ↓dRaise, ↓endsOf, ↓startE, ↓entOf, ↓ga, ↓pur, ↓dDnew, ↓dDput, ↓dDget, ↓dDsetd, ↓dLmX, ↓dFrzM, ↓dZip, ↓dZipM, ↓dListRev, ↓oListRev, ↓dOrG, ↓dLstM, ↓onDic, ↓onDicR, ↓onLst, ↓obD, ↓dVarP, ↓dItC, ↓onIns, ↓endsW, ↓dLidx, ↓isLD, ↓oIdx, ↓dTake, ↓dLendT, ↓dLendE, ↓lendE, ↓lend1, ↓dFzv, ↓fzv, ↓dStoreX, ↓dLidxD, ↓dGive, ↓dZip3, ↓dListD, ↓drf_int, ↓drf_str, ↓drf_bl, ↓drf_non, ↓drf_lst, ↓drf_tup, ↓drf_obj, ↓drf_dic, ↓drf_cls, ↓drf_exc, ↓drf_ty, ↓drf_ref, ↓drfO_dic, ↓drfO_lst, ↓drfO_ins, ↓drfO_non, ↓oLen_d, ↓oIn_d, ↓oNotIn_d, ↓oIn_dt, ↓oNotIn_dt, ↓kOkB_s, ↓kOkB_i, ↓oAdd_i, ↓oAdd_s, ↓oAdd_t, ↓oAdd_l, ↓oSub_i, ↓oMul_i, ↓oMulW_i, ↓oMulA_i, ↓oMulA_s, ↓oFdiv_i, ↓oMod_i, ↓oPow_i, ↓oLt_i, ↓oLtA_i, ↓oLe_i, ↓oGt_i, ↓oGe_i, ↓oEq_i, ↓oEq_s, ↓oEq_b, ↓oEq_nn, ↓oEq_ni, ↓oEq_in, ↓oEq_ns, ↓oEq_sn, ↓oNe_i, ↓oNe_s, ↓oNe_b, ↓oNe_nn, ↓oNe_ni, ↓oNe_in, ↓oNe_ns, ↓oNe_sn, ↓oIsN_, ↓oNotN_, ↓isNon_int, ↓isNon_str, ↓isNon_bl, ↓isNon_non, ↓isNon_lst, ↓isNon_tup, ↓isNon_obj, ↓isNon_exc, ↓isNon_dic, ↓oLen_s, ↓oLen_l, ↓oLen_t, ↓oAbs_, ↓oMax2_, ↓oMin2_, ↓oMinT_, ↓oMaxT_, ↓oInt1_i, ↓oInt1_b, ↓oInt1_s, ↓oStr1_, ↓oTuple1_l, ↓oTuple1_t, ↓oList1_l, ↓oList1_t, ↓oListD_d, ↓oCat_l, ↓truD_n, ↓truD_b, ↓truD_i, ↓truD_s, ↓truD_l, ↓truD_t, ↓onStr_s, ↓soStarts_, ↓soUpper_, ↓soLower_, ↓soIsupper_, ↓soFind_, ↓soStrip_, ↓soPart_, ↓soSplit_, ↓soJoin_l, ↓soJoin_t, ↓oSlL_l, ↓oSlS_l, ↓oSlS_t, ↓oSlS_s, ↓isi_int_int, ↓isi_int_str, ↓isi_int_bool, ↓isi_int_NoneType, ↓isi_int_list, ↓isi_int_tuple, ↓isi_bool_int, ↓isi_bool_str, ↓isi_bool_bool, ↓isi_bool_NoneType, ↓isi_bool_list, ↓isi_bool_tuple, ↓isi_tuple_int, ↓isi_tuple_str, ↓isi_tuple_bool, ↓isi_tuple_NoneType, ↓isi_tuple_list, ↓isi_tuple_tuple, ↓isi_str_int, ↓isi_str_str, ↓isi_str_bool, ↓isi_str_NoneType, ↓isi_str_list, ↓isi_str_tuple, ↓isi_list_int, ↓isi_list_str, ↓isi_list_bool, ↓isi_list_NoneType, ↓isi_list_list, ↓isi_list_tuple, ↓oIx_t0, ↓oIx_l0, ↓oIx_t1, ↓oIx_l1, ↓oIx_t2, ↓oIx_l2, ↓oIx_t3, ↓oIx_l3, ↓oIx_t4, ↓oIx_l4, ↓oIx_t5, ↓oIx_l5, ↓oIx_f0, ↓oIx_f1, ↓drf_fD, ↓oLen_f, ↓isi_tuple_f, ↓isi_int_f, ↓eq_fD, ↓ne_fD, ofS_inj, mem_ofS, mem_ofS0, putD_nil, putD_cons, updM_same, String.reduceEq, Nat.reduceLT, true_or, or_true, false_or, or_false, true_and, and_true, false_and, and_false, List.set_cons_zero, List.set_cons_succ, List.map_cons, List.map_nil, if_true, if_false, Bool.false_eq_true, decide_eq_true_eq, List.length_cons, List.length_nil, Int.reduceNe, Int.reduceLT, Int.reduceLE, Int.reduceEq, Int.reduceToNat, Int.reducePow, Int.reduceNeg, Int.reduceAdd, Int.reduceMul, Int.reduceSub, Nat.reduceAdd, Nat.reduceLeDiff, Nat.reduceEqDiff, Int.cast_ofNat_Int, Bool.true_eq_false, ite_not, sizeLine_eq, true_and, and_true, and_self, Int.fmod_eq_emod_of_nonneg, Int.fdiv_eq_ediv_of_nonneg, Bool.not_true, Bool.not_false, Bool.not_eq_true', decide_eq_false_iff_not, decide_true, decide_false])

/-! ### == of nested data -/
def pl : Nat → D → Bool
  | _, .non => true
  | _, .int _ => true
  | _, .str x => PySem.PyData.strOk x
  | n + 1, .lst xs => xs.all (pl n)
  | n + 1, .tup xs => xs.all (pl n)
  | _, _ => false
theorem pyL_map : ∀ xs : List D, pyL xs = xs.map D.py
  | [] => rfl
  | x :: xs => by show x.py :: pyL xs = _; rw [pyL_map xs]; rfl
theorem canAll {xs : List PyData} (h : ∀ x ∈ xs, PyData.canLay0 x = true) : PyData.canLayAll0 xs = true := by
  induction xs with
  | nil => simp [PyData.canLayAll0]
  | cons x xs ih =>
    unfold PyData.canLayAll0
    rw [h x List.mem_cons_self, ih fun y hy => h y (List.mem_cons_of_mem _ hy)]; rfl
theorem depAll {n : Nat} {xs : List PyData} (h : ∀ x ∈ xs, PyData.depth x ≤ n) : PyData.depthAll xs ≤ n := by
  induction xs with
  | nil => simp [PyData.depthAll]
  | cons x xs ih =>
    unfold PyData.depthAll
    have h1 := h x List.mem_cons_self
    have h2 := ih fun y hy => h y (List.mem_cons_of_mem _ hy)
    omega
theorem pl_ok : ∀ (n : Nat) (d : D), pl n d = true → PyData.canLay0 d.py = true ∧ PyData.depth d.py ≤ n
  | n, .non, _ => ⟨by simp [D.py, PyData.canLay0], by simp [D.py, PyData.depth]⟩
  | n, .int _, _ => ⟨by simp [D.py, PyData.canLay0], by simp [D.py, PyData.depth]⟩
  | n, .str x, h => ⟨by
      have h : PyData.strOk x = true := by cases n <;> exact h
      simp [D.py, PyData.canLay0, h], by simp [D.py, PyData.depth]⟩
  | n + 1, .lst xs, h => by
    have h : ∀ d ∈ xs, pl n d = true := List.all_eq_true.mp h
    have hc : ∀ x ∈ pyL xs, PyData.canLay0 x = true ∧ PyData.depth x ≤ n := fun x hx => by
      rw [pyL_map] at hx
      obtain ⟨d, hd, rfl⟩ := List.mem_map.mp hx
      exact pl_ok n d (h d hd)
    constructor
    · show PyData.canLay0 (.list (pyL xs)) = true
      unfold PyData.canLay0
      exact canAll fun x hx => (hc x hx).1
    · show PyData.depth (.list (pyL xs)) ≤ n + 1
      unfold PyData.depth
      have := depAll fun x hx => (hc x hx).2
      omega
  | n + 1, .tup xs, h => by
    have h : ∀ d ∈ xs, pl n d = true := List.all_eq_true.mp h
    have hc : ∀ x ∈ pyL xs, PyData.canLay0 x = true ∧ PyData.depth x ≤ n := fun x hx => by
      rw [pyL_map] at hx
      obtain ⟨d, hd, rfl⟩ := List.mem_map.mp hx
      exact pl_ok n d (h d hd)
    constructor
    · show PyData.canLay0 (.tuple (pyL xs)) = true
      unfold PyData.canLay0
      exact canAll fun x hx => (hc x hx).1
    · show PyData.depth (.tuple (pyL xs)) ≤ n + 1
      unfold PyData.depth
      have := depAll fun x hx => (hc x hx).2
      omega
  | 0, .lst _, h => by cases h
  | 0, .tup _, h => by cases h
  | 0, .bl _, h => by cases h
  | n + 1, .bl _, h => by cases h
  | 0, .obj _ _, h => by cases h
  | n + 1, .obj _ _, h => by cases h
  | 0, .ref _, h => by cases h
  | n + 1, .ref _, h => by cases h
  | 0, .ty _, h => by cases h
  | n + 1, .ty _, h => by cases h
  | 0, .cls _, h => by cases h
  | n + 1, .cls _, h => by cases h
  | 0, .exc _, h => by cases h
  | n + 1, .exc _, h => by cases h
  | 0, .dic _ _, h => by cases h
  | n + 1, .dic _ _, h => by cases h
theorem pl_sh {n : Nat} {d : D} (h : pl n d = true) (hn : n ≤ 200) : shp d.py = true := by
  obtain ⟨h1, h2⟩ := pl_ok n d h
  unfold shp
  rw [h1, decide_eq_true (by omega)]; rfl
theorem eqvAll_iff {n : Nat} (ih : ∀ d e : D, pl n d = true → pl n e = true → (PyData.eqv d.py e.py = true ↔ d = e)) : ∀ {xs ys : List D}, (∀ d ∈ xs, pl n d = true) → (∀ d ∈ ys, pl n d = true) → (PyData.eqvAll (pyL xs) (pyL ys) = true ↔ xs = ys)
  | [], [], _, _ => by simp [pyL, PyData.eqvAll]
  | [], y :: ys, _, _ => by simp [pyL, PyData.eqvAll]
  | x :: xs, [], _, _ => by simp [pyL, PyData.eqvAll]
  | x :: xs, y :: ys, h1, h2 => by
    have a := ih x y (h1 _ List.mem_cons_self) (h2 _ List.mem_cons_self)
    have b := eqvAll_iff ih (xs := xs) (ys := ys) (fun d hd => h1 d (List.mem_cons_of_mem _ hd)) fun d hd => h2 d (List.mem_cons_of_mem _ hd)
    show PyData.eqvAll (x.py :: pyL xs) (y.py :: pyL ys) = true ↔ _
    unfold PyData.eqvAll
    rw [Bool.and_eq_true, a, b, List.cons.injEq]
theorem eqv_iff : ∀ (n : Nat) (d e : D), pl n d = true → pl n e = true → (PyData.eqv d.py e.py = true ↔ d = e)
  | 0, d, e, h1, h2 => by
    cases d <;> first | (cases h1; done) | skip
    all_goals cases e <;> first | (cases h2; done) | simp [D.py, PyData.eqv]
  | n + 1, d, e, h1, h2 => by
    have ih := eqv_iff n
    cases d <;> first | (cases h1; done) | skip
    all_goals cases e <;> first | (cases h2; done) | (simp [D.py, PyData.eqv]; done) | skip
    · have := eqvAll_iff ih (List.all_eq_true.mp h1) (List.all_eq_true.mp h2)
      simp only [D.py, PyData.eqv, this, D.lst.injEq]
    · have := eqvAll_iff ih (List.all_eq_true.mp h1) (List.all_eq_true.mp h2)
      simp only [D.py, PyData.eqv, this, D.tup.injEq]

end Z

namespace Z
open PySem L2
local macro_rules | `(tactic| simp! [$xs,*]) => `(tactic| simp only [$xs,*, ↓dSeq, ↓dAsg, ↓dOp, ↓dVar, ↓dVarR, ↓dC, ↓dCall, ↓dCons, ↓dNil, ↓dIf, ↓dRet, ↓dRetN, ↓dTup, ↓dTst, ↓dNeg, ↓dNext, ↓dCB, ↓dLstOf, ↓dLst, ↓dCat, ↓dSlL, ↓dSlS, ↓dONone, ↓dOSome, ↓dList1, ↓dChain, ↓dChain3, ↓dAndT, ↓dOrT, ↓dNotT, ↓dAndV, ↓dOrV, ↓dNotV, ↓dIfE, ↓dTru, ↓dOwn, ↓dAsgG, ↓dPar, ↓dDrop, ↓dAugI, ↓dBreak, ↓dCont, ↓dgName, ↓dgNil, ↓dgCons, ↓dgTup, ↓dFrz, ↓frzE, ↓dItA, ↓dItB, ↓dRng1, ↓dRng2, ↓dEnum, ↓dFor, ↓dSM, ↓dSM0, ↓dRepN, ↓dLc, ↓dYes, ↓wipeE, ↓dStore, ↓dLmut, ↓lmPre, ↓lmAt, ↓isLst, ↓kNx, ↓kSet, ↓lmAppend, ↓lmExtend, ↓lmPop, ↓lmPopAt, ↓lmClear, ↓lmInsert, ↓lmSet, ↓dAugL, ↓dAugS, ↓lmAugS, ↓dMake, ↓dMake0, ↓dMeth, ↓dFld, ↓dSetF, ↓dTry, ↓dTryM, ↓exM, ↓dRaise, ↓endsOf, ↓startE, ↓entOf, ↓ga, ↓pur, ↓dDnew, ↓dDput, ↓dDget, ↓dDsetd, ↓dLmX, ↓dFrzM, ↓dZip, ↓dZipM, ↓dListRev, ↓oListRev, ↓dOrG, ↓dLstM, ↓onDic, ↓onDicR, ↓onLst, ↓obD, ↓dVarP, ↓dItC, ↓onIns, ↓endsW, ↓dLidx, ↓isLD, ↓oIdx, ↓dTake, ↓dLendT, ↓dLendE, ↓lendE, ↓lend1, ↓dFzv, ↓fzv, ↓dStoreX, ↓dLidxD, ↓dGive, ↓dZip3, ↓dListD, ↓drf_int, ↓drf_str, ↓drf_bl, ↓drf_non, ↓drf_lst, ↓drf_tup, ↓drf_obj, ↓drf_dic, ↓drf_cls, ↓drf_exc, ↓drf_ty, ↓drf_ref, ↓drfO_dic, ↓drfO_lst, ↓drfO_ins, ↓drfO_non, ↓oLen_d, ↓oIn_d, ↓oNotIn_d, ↓oIn_dt, ↓oNotIn_dt, ↓kOkB_s, ↓kOkB_i, ↓oAdd_i, ↓oAdd_s, ↓oAdd_t, ↓oAdd_l, ↓oSub_i, ↓oMul_i, ↓oMulW_i, ↓oMulA_i, ↓oMulA_s, ↓oFdiv_i, ↓oMod_i, ↓oPow_i, ↓oLt_i, ↓oLtA_i, ↓oLe_i, ↓oGt_i, ↓oGe_i, ↓oEq_i, ↓oEq_s, ↓oEq_b, ↓oEq_nn, ↓oEq_ni, ↓oEq_in, ↓oEq_ns, ↓oEq_sn, ↓oNe_i, ↓oNe_s, ↓oNe_b, ↓oNe_nn, ↓oNe_ni, ↓oNe_in, ↓oNe_ns, ↓oNe_sn, ↓oIsN_, ↓oNotN_, ↓isNon_int, ↓isNon_str, ↓isNon_bl, ↓isNon_non, ↓isNon_lst, ↓isNon_tup, ↓isNon_obj, ↓isNon_exc, ↓isNon_dic, ↓oLen_s, ↓oLen_l, ↓oLen_t, ↓oAbs_, ↓oMax2_, ↓oMin2_, ↓oMinT_, ↓oMaxT_, ↓oInt1_i, ↓oInt1_b, ↓oInt1_s, ↓oStr1_, ↓oTuple1_l, ↓oTuple1_t, ↓oList1_l, ↓oList1_t, ↓oListD_d, ↓oCat_l, ↓truD_n, ↓truD_b, ↓truD_i, ↓truD_s, ↓truD_l, ↓truD_t, ↓onStr_s, ↓soStarts_, ↓soUpper_, ↓soLower_, ↓soIsupper_, ↓soFind_, ↓soStrip_, ↓soPart_, ↓soSplit_, ↓soJoin_l, ↓soJoin_t, ↓oSlL_l, ↓oSlS_l, ↓oSlS_t, ↓oSlS_s, ↓isi_int_int, ↓isi_int_str, ↓isi_int_bool, ↓isi_int_NoneType, ↓isi_int_list, ↓isi_int_tuple, ↓isi_bool_int, ↓isi_bool_str, ↓isi_bool_bool, ↓isi_bool_NoneType, ↓isi_bool_list, ↓isi_bool_tuple, ↓isi_tuple_int, ↓isi_tuple_str, ↓isi_tuple_bool, ↓isi_tuple_NoneType, ↓isi_tuple_list, ↓isi_tuple_tuple, ↓isi_str_int, ↓isi_str_str, ↓isi_str_bool, ↓isi_str_NoneType, ↓isi_str_list, ↓isi_str_tuple, ↓isi_list_int, ↓isi_list_str, ↓isi_list_bool, ↓isi_list_NoneType, ↓isi_list_list, ↓isi_list_tuple, ↓oIx_t0, ↓oIx_l0, ↓oIx_t1, ↓oIx_l1, ↓oIx_t2, ↓oIx_l2, ↓oIx_t3, ↓oIx_l3, ↓oIx_t4, ↓oIx_l4, ↓oIx_t5, ↓oIx_l5, ↓oIx_f0, ↓oIx_f1, ↓drf_fD, ↓oLen_f, ↓isi_tuple_f, ↓isi_int_f, ↓eq_fD, ↓ne_fD, ofS_inj, mem_ofS, mem_ofS0, putD_nil, putD_cons, updM_same, String.reduceEq, Nat.reduceLT, true_or, or_true, false_or, or_false, true_and, and_true, false_and, and_false, List.set_cons_zero, List.set_cons_succ, List.map_cons, List.map_nil, if_true, if_false, Bool.false_eq_true, decide_eq_true_eq, List.length_cons, List.length_nil, Int.reduceNe, Int.reduceLT, Int.reduceLE, Int.reduceEq, Int.reduceToNat, Int.reducePow, Int.reduceNeg, Int.reduceAdd, Int.reduceMul, Int.reduceSub, Nat.reduceAdd, Nat.reduceLeDiff, Nat.reduceEqDiff, Int.cast_ofNat_Int, Bool.true_eq_false, ite_not, sizeLine_eq, true_and, and_true, and_self, Int.fmod_eq_emod_of_nonneg, Int.fdiv_eq_ediv_of_nonneg, Bool.not_true, Bool.not_false, Bool.not_eq_true', decide_eq_false_iff_not, decide_true, decide_false])


/-! ### nets -/
def okS (w : Str) : Prop := PySem.PyData.strOk w = true ∧ (cs w).length ≤ 100
theorem okS.sz {w : Str} (h : okS w) : sz w := by unfold Z.sz; have := h.2; omega
theorem upd_updM {M : Mu} {a : Addr} {o u : Ob} : updM (updM M a o) a u = updM M a u := by
  funext b
  unfold updM
  split <;> rfl
section
variable {n : Int} {es : List D} {K : D → Prop} {M : Mu}
end

end Z

namespace Z
open PySem L2
local macro_rules | `(tactic| simp! [$xs,*]) => `(tactic| simp only [$xs,*, ↓dSeq, ↓dAsg, ↓dOp, ↓dVar, ↓dVarR, ↓dC, ↓dCall, ↓dCons, ↓dNil, ↓dIf, ↓dRet, ↓dRetN, ↓dTup, ↓dTst, ↓dNeg, ↓dNext, ↓dCB, ↓dLstOf, ↓dLst, ↓dCat, ↓dSlL, ↓dSlS, ↓dONone, ↓dOSome, ↓dList1, ↓dChain, ↓dChain3, ↓dAndT, ↓dOrT, ↓dNotT, ↓dAndV, ↓dOrV, ↓dNotV, ↓dIfE, ↓dTru, ↓dOwn, ↓dAsgG, ↓dPar, ↓dDrop, ↓dAugI, ↓dBreak, ↓dCont, ↓dgName, ↓dgNil, ↓dgCons, ↓dgTup, ↓dFrz, ↓frzE, ↓dItA, ↓dItB, ↓dRng1, ↓dRng2, ↓dEnum, ↓dFor, ↓dSM, ↓dSM0, ↓dRepN, ↓dLc, ↓dYes, ↓wipeE, ↓dStore, ↓dLmut, ↓lmPre, ↓lmAt, ↓isLst, ↓kNx, ↓kSet, ↓lmAppend, ↓lmExtend, ↓lmPop, ↓lmPopAt, ↓lmClear, ↓lmInsert, ↓lmSet, ↓dAugL, ↓dAugS, ↓lmAugS, ↓dMake, ↓dMake0, ↓dMeth, ↓dFld, ↓dSetF, ↓dTry, ↓dTryM, ↓exM, ↓dRaise, ↓endsOf, ↓startE, ↓entOf, ↓ga, ↓pur, ↓dDnew, ↓dDput, ↓dDget, ↓dDsetd, ↓dLmX, ↓dFrzM, ↓dZip, ↓dZipM, ↓dListRev, ↓oListRev, ↓dOrG, ↓dLstM, ↓onDic, ↓onDicR, ↓onLst, ↓obD, ↓dVarP, ↓dItC, ↓onIns, ↓endsW, ↓dLidx, ↓isLD, ↓oIdx, ↓dTake, ↓dLendT, ↓dLendE, ↓lendE, ↓lend1, ↓dFzv, ↓fzv, ↓dStoreX, ↓dLidxD, ↓dGive, ↓dZip3, ↓dListD, ↓drf_int, ↓drf_str, ↓drf_bl, ↓drf_non, ↓drf_lst, ↓drf_tup, ↓drf_obj, ↓drf_dic, ↓drf_cls, ↓drf_exc, ↓drf_ty, ↓drf_ref, ↓drfO_dic, ↓drfO_lst, ↓drfO_ins, ↓drfO_non, ↓oLen_d, ↓oIn_d, ↓oNotIn_d, ↓oIn_dt, ↓oNotIn_dt, ↓kOkB_s, ↓kOkB_i, ↓oAdd_i, ↓oAdd_s, ↓oAdd_t, ↓oAdd_l, ↓oSub_i, ↓oMul_i, ↓oMulW_i, ↓oMulA_i, ↓oMulA_s, ↓oFdiv_i, ↓oMod_i, ↓oPow_i, ↓oLt_i, ↓oLtA_i, ↓oLe_i, ↓oGt_i, ↓oGe_i, ↓oEq_i, ↓oEq_s, ↓oEq_b, ↓oEq_nn, ↓oEq_ni, ↓oEq_in, ↓oEq_ns, ↓oEq_sn, ↓oNe_i, ↓oNe_s, ↓oNe_b, ↓oNe_nn, ↓oNe_ni, ↓oNe_in, ↓oNe_ns, ↓oNe_sn, ↓oIsN_, ↓oNotN_, ↓isNon_int, ↓isNon_str, ↓isNon_bl, ↓isNon_non, ↓isNon_lst, ↓isNon_tup, ↓isNon_obj, ↓isNon_exc, ↓isNon_dic, ↓oLen_s, ↓oLen_l, ↓oLen_t, ↓oAbs_, ↓oMax2_, ↓oMin2_, ↓oMinT_, ↓oMaxT_, ↓oInt1_i, ↓oInt1_b, ↓oInt1_s, ↓oStr1_, ↓oTuple1_l, ↓oTuple1_t, ↓oList1_l, ↓oList1_t, ↓oListD_d, ↓oCat_l, ↓truD_n, ↓truD_b, ↓truD_i, ↓truD_s, ↓truD_l, ↓truD_t, ↓onStr_s, ↓soStarts_, ↓soUpper_, ↓soLower_, ↓soIsupper_, ↓soFind_, ↓soStrip_, ↓soPart_, ↓soSplit_, ↓soJoin_l, ↓soJoin_t, ↓oSlL_l, ↓oSlS_l, ↓oSlS_t, ↓oSlS_s, ↓isi_int_int, ↓isi_int_str, ↓isi_int_bool, ↓isi_int_NoneType, ↓isi_int_list, ↓isi_int_tuple, ↓isi_bool_int, ↓isi_bool_str, ↓isi_bool_bool, ↓isi_bool_NoneType, ↓isi_bool_list, ↓isi_bool_tuple, ↓isi_tuple_int, ↓isi_tuple_str, ↓isi_tuple_bool, ↓isi_tuple_NoneType, ↓isi_tuple_list, ↓isi_tuple_tuple, ↓isi_str_int, ↓isi_str_str, ↓isi_str_bool, ↓isi_str_NoneType, ↓isi_str_list, ↓isi_str_tuple, ↓isi_list_int, ↓isi_list_str, ↓isi_list_bool, ↓isi_list_NoneType, ↓isi_list_list, ↓isi_list_tuple, ↓oIx_t0, ↓oIx_l0, ↓oIx_t1, ↓oIx_l1, ↓oIx_t2, ↓oIx_l2, ↓oIx_t3, ↓oIx_l3, ↓oIx_t4, ↓oIx_l4, ↓oIx_t5, ↓oIx_l5, ↓oIx_f0, ↓oIx_f1, ↓drf_fD, ↓oLen_f, ↓isi_tuple_f, ↓isi_int_f, ↓eq_fD, ↓ne_fD, ofS_inj, mem_ofS, mem_ofS0, putD_nil, putD_cons, updM_same, String.reduceEq, Nat.reduceLT, true_or, or_true, false_or, or_false, true_and, and_true, false_and, and_false, List.set_cons_zero, List.set_cons_succ, List.map_cons, List.map_nil, if_true, if_false, Bool.false_eq_true, decide_eq_true_eq, List.length_cons, List.length_nil, Int.reduceNe, Int.reduceLT, Int.reduceLE, Int.reduceEq, Int.reduceToNat, Int.reducePow, Int.reduceNeg, Int.reduceAdd, Int.reduceMul, Int.reduceSub, Nat.reduceAdd, Nat.reduceLeDiff, Nat.reduceEqDiff, Int.cast_ofNat_Int, Bool.true_eq_false, ite_not, sizeLine_eq, true_and, and_true, and_self, Int.fmod_eq_emod_of_nonneg, Int.fdiv_eq_ediv_of_nonneg, Bool.not_true, Bool.not_false, Bool.not_eq_true', decide_eq_false_iff_not, decide_true, decide_false])
def t_all_words (p_is_word : SpM) : DTS :=
 (dRet (dCB oAll (dCons (dLstOf (dLc (dItC 0) (dgName 1) dYes (dCall p_is_word (dCons (dVar 1) dNil)) [1])) dNil)))

def t_Rule_init (p_is_word : SpM) (p_is_kind : SpM) (p_is_name : SpM) (p_all_words : SpM) : DTS :=
 (dSeq (dIf (dOrT (dNotT (dTru (dCall p_is_word (dCons (dVar 1) dNil)))) (dNotT (dTru (dCall p_is_kind (dCons (dVar 2) dNil))))) (dRaise "NoRule") dNext)
 (dSeq (dIf (dOrT (dNotT (dTst (dChain oLe oLe (dC (.int 1)) (dCB oLen (dCons (dVarR 3) dNil)) (dC (.int 4))))) (dNotT (dTru (dCB oAll (dCons (dLstOf (dLc (dItC 3) (dgName 7) dYes (dCall p_is_name (dCons (dVar 7) dNil)) [7])) dNil))))) (dRaise "NoRule") dNext)
 (dSeq (dIf (dAndT (dTst (dOp oNe (dVarR 5) (dC (.str "")))) (dNotT (dTru (dCall p_is_word (dCons (dVar 5) dNil))))) (dRaise "NoRule") dNext)
 (dSeq (dIf (dAndT (dTst (dOp oNotN (dVarR 6) (dC .non))) (dOrT (dTst (dOp oEq (dCB oLen (dCons (dVarR 6) dNil)) (dC (.int 0)))) (dNotT (dTru (dCall p_all_words (dCons (dVarR 6) dNil)))))) (dRaise "NoRule") dNext)
 (dSeq (dSetF 0 "title" ["Rule"] (dVar 1))
 (dSeq (dSetF 0 "head" ["Rule"] (dVar 2))
 (dSeq (dSetF 0 "parts" ["Rule"] (dCB oTuple1 (dCons (dVarR 3) dNil)))
 (dSeq (dSetF 0 "weight" ["Rule"] (dVar 4))
 (dSeq (dSetF 0 "tag" ["Rule"] (dVar 5))
 (dSeq (dSetF 0 "under" ["Rule"] (dVarP 6))
 (dIf (dTst (dOp oNotN (dVarR 6) (dC .non))) (dSetF 0 "under" ["Rule"] (dCB oTuple1 (dCons (dVarR 6) dNil))) dNext)))))))))))

def t_look_at_weights (p_Chance_takes : SpM) (p_Scale_takes : SpM) : DTS :=
 (dSeq (dAsg 2 (dDnew false))
 (dSeq (dFor (dItB 1) (dgName 3) (dSeq (dIf (dNotT (dTru (dMeth "takes" [("Cost", p_Scale_takes), ("Chance", p_Chance_takes)] (dVar 0) (dCons (dFld "weight" ["Rule"] (dVarR 3)) dNil)))) (dRaise "NoWeight") dNext)
 (dSeq (dIf (dTst (dOp oIn (dFld "title" ["Rule"] (dVarR 3)) (dVarR 2))) (dRaise "Twice") dNext)
 (dDput (dVar 2) (dFld "title" ["Rule"] (dVarR 3)) (dC (.bl true))))))
 (dFrzM 2 (dRet (dVar 2)))))

def t_look_at_kinds (p_is_kind : SpM) : DTS :=
 (dSeq (dAsg 2 (dDnew false))
 (dSeq (dFor (dItB 1) (dgName 3) (dDput (dVar 2) (dFld "head" ["Rule"] (dVarR 3)) (dC (.bl true))))
 (dSeq (dOwn 4 (dLst (dCons (dVar 0) dNil)))
 (dSeq (dFor (dItB 1) (dgName 3) (fun DD ρ M => lmPre ρ M 4 ∧ dAugL 4 (dLstOf (dLc (dItA (dFld "parts" ["Rule"] (dVarR 3))) (dgName 6) (dTru (dCall p_is_kind (dCons (dVar 6) dNil))) (dVar 6) [6])) DD ρ M))
 (dFrz 4 (dFor (dItA (dVar 4)) (dgName 5) (dIf (dTst (dOp oNotIn (dVarR 5) (dVarR 2))) (dRaise "NoKind") dNext)))))))

def t_single_kinds (p_is_kind : SpM) : DTS :=
 (dSeq (dAsg 1 (dDnew false))
 (dSeq (dFor (dItB 0) (dgName 2) (dIf (dAndT (dTst (dOp oEq (dCB oLen (dCons (dFld "parts" ["Rule"] (dVarR 2)) dNil)) (dC (.int 1)))) (dTru (dCall p_is_kind (dCons (dOp oIx (dFld "parts" ["Rule"] (dVarR 2)) (dC (.int 0))) dNil)))) (dSeq (dAsg 3 (dDsetd (dVarR 1) (dFld "head" ["Rule"] (dVarR 2)) (dLstM (dLst dNil))))
 (dLmut lmAppend 3 (dCons (dOp oIx (dFld "parts" ["Rule"] (dVarR 2)) (dC (.int 0))) dNil) kNx)) dNext))
 (dFrzD 1 (dRet (dVar 1)))))

def t_comes_back : DTS :=
 (dSeq (dAsg 2 (dDnew false))
 (dSeq (dOwn 3 (dList1 (dCons (dDget (dVarR 0) (dVar 1) (dLstOf (dLst dNil))) dNil)))
 (dSeq (dWhile (dTst (dOp oGt (dCB oLen (dCons (dVarR 3) dNil)) (dC (.int 0)))) (dSeq (dLmut lmPop 3 dNil (kSet 4))
 (dSeq (dIf (dTst (dOp oEq (dVarR 4) (dVarR 1))) (dRet (dC (.bl true))) dNext)
 (dIf (dTst (dOp oNotIn (dVarR 4) (dVarR 2))) (dSeq (dDput (dVar 2) (dVar 4) (dC (.bl true)))
 (fun DD ρ M => lmPre ρ M 3 ∧ dAugL 3 (dDget (dVarR 0) (dVar 4) (dLstOf (dLst dNil))) DD ρ M)) dNext))))
 (dRet (dC (.bl false))))))

def t_Grammar_init (p_look_at_weights : SpM) (p_scale_of : SpM) (p_look_at_kinds : SpM) (p_single_kinds : SpM) (p_comes_back : SpM) : DTS :=
 (dSeq (dAsg 4 (dCall p_look_at_weights (dCons (dCall p_scale_of (dCons (dVar 1) dNil)) (dCons (dVarR 3) dNil))))
 (dSeq (dFor (dItB 3) (dgName 5) (dFor (dItA (dOrG (dFld "under" ["Rule"] (dVarR 5)) (dTup dNil))) (dgName 6) (dIf (dTst (dOp oNotIn (dVarR 6) (dVarR 4))) (dRaise "NoTitle") dNext)))
 (dSeq (dDrop (dCall p_look_at_kinds (dCons (dVar 2) (dCons (dVarR 3) dNil))))
 (dSeq (dAsg 7 (dCall p_single_kinds (dCons (dVarR 3) dNil)))
 (dSeq (dFor (dItA (dVar 7)) (dgName 8) (dIf (dTru (dCall p_comes_back (dCons (dVar 7) (dCons (dVar 8) dNil)))) (dRaise "Ring") dNext))
 (dSeq (dSetF 0 "scale" ["Grammar"] (dVar 1))
 (dSeq (dSetF 0 "start" ["Grammar"] (dVar 2))
 (dSetF 0 "rules" ["Grammar"] (dCB oTuple1 (dCons (dVarR 3) dNil))))))))))

/-! ### rules -/
structure Ru where
  title : Str
  head : Str
  parts : List Str
  weight : Rat
  tag : Str
  under : Option (List Str)
def strT (xs : List Str) : D := .tup (xs.map .str)
def undD : Option (List Str) → D
  | none => .non
  | some us => strT us
def ruF (r : Ru) : List (Str × D) := [("title", .str r.title), ("head", .str r.head), ("parts", strT r.parts), ("weight", fD r.weight), ("tag", .str r.tag), ("under", undD r.under)]
def ruD (r : Ru) : D := .obj "Rule" (ruF r)
def partsB (ps : List Str) : Bool := decide (1 ≤ ps.length ∧ ps.length ≤ 4) && ps.all nameB
def tagB (g : Str) : Bool := decide (g = "") || wordB g
def underB : Option (List Str) → Bool
  | none => true
  | some us => decide (us ≠ []) && us.all wordB
def ruGood (r : Ru) : Bool := wordB r.title && (kindB r.head && (partsB r.parts && (tagB r.tag && underB r.under)))
structure RuOk (r : Ru) : Prop where
  t : okS r.title
  h : okS r.head
  p : ∀ x ∈ r.parts, okS x
  pl : r.parts.length ≤ 1000
  g : okS r.tag
  u : ∀ us, r.under = some us → us.length ≤ 1000 ∧ ∀ x ∈ us, okS x
def seqOf (d : D) (xs : List Str) : Prop := d = .lst (xs.map .str) ∨ d = .tup (xs.map .str)
def undOf (d : D) : Option (List Str) → Prop
  | none => d = .non
  | some us => seqOf d us
def sp_all_words : SpD := fun ds Q _ => match ds with | [d] => ∃ xs, seqOf d xs ∧ xs.length ≤ 1000 ∧ (∀ x ∈ xs, okS x) ∧ Q (.bl (xs.all wordB)) | _ => False
section
variable {G : DTG} {T : DTE} {ws : List Nat} {ρ : List Ent} {M : Mu} {Q : List D → Mu → Prop}
/-- a truth of each text -/
theorem lc_bools (P : Str → Bool) {xs : List Str} (hl : xs.length ≤ 1000000) (h : ∀ x ∈ xs, ∀ (K : D → Mu → Prop), K (.bl (P x)) M → G (.str x) (wipeE ρ ws) fun ρ2 => T ρ2 M K (fun _ _ => False))
    (hq : Q (xs.map fun x => D.bl (P x)) M) : dLcI G dYes T ws (xs.map .str) ρ M Q := by
  have e : (xs.map D.str).map (fun d => match d with | .str x => D.bl (P x) | d => d) = xs.map fun x => D.bl (P x) := by rw [List.map_map]; rfl
  refine lc_map (fun d => match d with | .str x => D.bl (P x) | d => d) (by rw [List.length_map]; exact hl) (fun x hx K N hK => ?_) (by rw [e]; exact hq)
  obtain ⟨y, hy, rfl⟩ := List.mem_map.mp hx
  exact h y hy K hK
end
theorem oAll_bls {P : Str → Bool} {xs : List Str} {Q : D → Prop} : oAll [.lst (xs.map fun x => D.bl (P x))] Q = Q (.bl (xs.all P)) := by
  have e : bls (xs.map fun x => D.bl (P x)) = some (xs.map P) := by
    have := bls_map (xs.map P)
    rw [List.map_map] at this
    exact this
  have e2 : (xs.map P).all id = xs.all P := by rw [List.all_map]; rfl
  exact propext ⟨fun ⟨bs, h1, h2⟩ => by rw [e] at h1; cases h1; rw [e2] at h2; exact h2, fun h => ⟨_, e, by rw [e2]; exact h⟩⟩
theorem r_all_words (ds M Q E) (h : pur sp_all_words ds M Q E) : t_all_words (pur sp_is_word) (endsOf Q E) (startE [true] 2 ds) M := by
  obtain ⟨d, rfl, xs, hd, hl, ho, h'⟩ := sp1 h
  clear h
  rcases hd with rfl | rfl
  all_goals
    simp! [t_all_words]
    refine lc_bools wordB (by omega) (fun x hx K hK => ?_) ?_
    · simp! [sp_is_word]
      exact ⟨(ho x hx).sz, hK⟩
    · simp! [oAll_bls]
      exact h'
def sp_Rule_init : SpM := fun ds M Q E => match ds with
  | [.ref a, .str t, .str h, ps, w, .str g, u] => M a = some (.ins "Rule" []) ∧ ∃ r : Ru, r.title = t ∧ r.head = h ∧ seqOf ps r.parts ∧ w = fD r.weight ∧ r.tag = g ∧ undOf u r.under ∧ RuOk r ∧ (if ruGood r = true then Q .non (updM M a (.ins "Rule" (ruF r))) else E "NoRule" M)
  | _ => False
theorem r_Rule_init (ds M Q E) (h : sp_Rule_init ds M Q E) : t_Rule_init (pur sp_is_word) (pur sp_is_kind) (pur sp_is_name) (pur sp_all_words) (endsOf Q E) (startE [false, false, false, true, false, false, true] 8 ds) M := by
  unfold sp_Rule_init at h
  split at h
  · rename_i a t hd ps w g u
    obtain ⟨hM, r, rfl, rfl, hp, rfl, rfl, hu, ok, h⟩ := h
    have bad : ruGood r = false → E "NoRule" M := fun z => by rw [z, if_neg (by simp)] at h; exact h
    have hu' : (r.under = none ∧ u = .non) ∨ ∃ us, r.under = some us ∧ (u = .lst (us.map .str) ∨ u = .tup (us.map .str)) := by
      cases z : r.under with
      | none => rw [z] at hu; exact .inl ⟨rfl, hu⟩
      | some us => rw [z] at hu; exact .inr ⟨us, rfl, hu⟩
    have g1 : ∀ b, wordB r.title = b → b = false → E "NoRule" M := fun b e z => bad (by unfold ruGood; rw [e, z]; rfl)
    have g2 : kindB r.head = false → E "NoRule" M := fun e => bad (by unfold ruGood; rw [e]; simp)
    have g3 : partsB r.parts = false → E "NoRule" M := fun e => bad (by unfold ruGood; rw [e]; simp)
    have g4 : tagB r.tag = false → E "NoRule" M := fun e => bad (by unfold ruGood; rw [e]; simp)
    have g5 : underB r.under = false → E "NoRule" M := fun e => bad (by unfold ruGood; rw [e]; simp)
    have g6 : wordB r.title = true → kindB r.head = true → partsB r.parts = true → tagB r.tag = true → underB r.under = true → Q .non (updM M a (.ins "Rule" (ruF r))) := fun a1 a2 a3 a4 a5 => by
      have : ruGood r = true := by unfold ruGood; rw [a1, a2, a3, a4, a5]; rfl
      rw [this, if_pos rfl] at h
      exact h
    clear h bad
    rcases hp with rfl | rfl <;> rcases hu' with ⟨hun, rfl⟩ | ⟨us, hun, rfl | rfl⟩
    all_goals
      simp! [t_Rule_init, sp_is_word, sp_is_kind, List.length_map]
      refine ⟨ok.t.sz, ?_⟩
      cases h1 : wordB r.title with
      | false => exact g1 _ h1 rfl
      | true =>
        simp only [Bool.true_eq_false, if_false]
        refine ⟨ok.h.sz, ?_⟩
        cases h2 : kindB r.head with
        | false => exact g2 h2
        | true =>
          simp only [Bool.true_eq_false, if_false]
          by_cases l1 : (1 : Int) ≤ (r.parts.length : Int)
          · by_cases l2 : (r.parts.length : Int) ≤ 4
            · rw [if_pos l1, if_pos l2]
              refine lc_bools nameB (by have := ok.pl; omega) (fun x hx K hK => ?_) ?_
              · simp! [sp_is_name]
                exact ⟨(ok.p x hx).sz, hK⟩
              · simp! [oAll_bls]
                cases h3 : r.parts.all nameB with
                | false => exact g3 (by unfold partsB; rw [h3, Bool.and_false])
                | true =>
                  have h3' : partsB r.parts = true := by unfold partsB; rw [h3, decide_eq_true (by omega)]; rfl
                  simp only [Bool.true_eq_false, if_false]
                  simp! [hM, upd_updM]
                  have tl : tagB r.tag = true → (underB r.under = true → Q .non (updM M a (.ins "Rule" (ruF r)))) := fun ht => g6 h1 h2 h3' ht
                  have fin : tagB r.tag = true → (match r.under with
                    | none => Q .non (updM M a (.ins "Rule" (ruF r)))
                    | some us => if (us.length : Int) = 0 then E "NoRule" M else us.length ≤ 1000 ∧ (∀ x ∈ us, okS x) ∧ (if us.all wordB = false then E "NoRule" M else Q .non (updM M a (.ins "Rule" (ruF r))))) := fun ht => by
                    have tl := tl ht
                    cases z : r.under with
                    | none => exact tl (by rw [z]; rfl)
                    | some us =>
                      dsimp only
                      by_cases h0 : (us.length : Int) = 0
                      · rw [if_pos h0]
                        exact g5 (by rw [z]; show (decide (us ≠ []) && us.all wordB) = _; rw [decide_eq_false (by simp; exact List.length_eq_zero_iff.mp (by omega))]; rfl)
                      · rw [if_neg h0]
                        obtain ⟨u1, u2⟩ := ok.u us z
                        refine ⟨u1, u2, ?_⟩
                        cases h5 : us.all wordB with
                        | false => exact g5 (by rw [z]; show (decide (us ≠ []) && us.all wordB) = _; rw [h5, Bool.and_false])
                        | true => exact tl (by rw [z]; show (decide (us ≠ []) && us.all wordB) = _; rw [h5, decide_eq_true (show us ≠ [] from fun y => h0 (by rw [y]; rfl))]; rfl)
                  unfold ruF at fin
                  rw [hun] at fin
                  dsimp only at fin
                  by_cases ht : r.tag = ""
                  · rw [if_pos ht]
                    have fin := fin (by unfold tagB; rw [decide_eq_true ht]; rfl)
                    first
                      | exact fin
                      | (split
                         · rename_i y; rw [if_pos y] at fin; exact fin
                         · rename_i y
                           rw [if_neg y] at fin
                           obtain ⟨f1, f2, f3⟩ := fin
                           refine ⟨us, ?_, f1, f2, ?_⟩
                           · first | exact .inl rfl | exact .inr rfl
                           · simp! [dSeq]
                             split
                             · rename_i y; rw [if_pos y] at f3; exact f3
                             · rename_i y; rw [if_neg y] at f3; first | exact f3 | exact fun _ => f3)
                  · rw [if_neg ht]
                    refine ⟨ok.g.sz, ?_⟩
                    cases h4 : wordB r.tag with
                    | false => exact g4 (by unfold tagB; rw [h4, decide_eq_false ht]; rfl)
                    | true =>
                      have fin := fin (by unfold tagB; rw [h4, Bool.or_true])
                      simp only [Bool.true_eq_false, if_false]
                      first
                      | exact fin
                      | (split
                         · rename_i y; rw [if_pos y] at fin; exact fin
                         · rename_i y
                           rw [if_neg y] at fin
                           obtain ⟨f1, f2, f3⟩ := fin
                           refine ⟨us, ?_, f1, f2, ?_⟩
                           · first | exact .inl rfl | exact .inr rfl
                           · simp! [dSeq]
                             split
                             · rename_i y; rw [if_pos y] at f3; exact f3
                             · rename_i y; rw [if_neg y] at f3; first | exact f3 | exact fun _ => f3)
            · rw [if_pos l1, if_neg l2]
              exact g3 (by unfold partsB; rw [decide_eq_false (by omega)]; rfl)
          · rw [if_neg l1]
            exact g3 (by unfold partsB; rw [decide_eq_false (by omega)]; rfl)
  · exact h.elim
/-! ### grammars -/
section
variable {r : Ru} {K : D → Prop} {M : Mu}
theorem drf_ru : drf M (ruD r) = ruD r := rfl
theorem fld_title : fldD "title" ["Rule"] (ruD r) K = K (.str r.title) := propext ⟨fun ⟨_, x, e, h⟩ => by cases e; exact h, fun h => ⟨by simp, _, rfl, h⟩⟩
theorem fld_head : fldD "head" ["Rule"] (ruD r) K = K (.str r.head) := propext ⟨fun ⟨_, x, e, h⟩ => by cases e; exact h, fun h => ⟨by simp, _, rfl, h⟩⟩
theorem fld_parts : fldD "parts" ["Rule"] (ruD r) K = K (strT r.parts) := propext ⟨fun ⟨_, x, e, h⟩ => by cases e; exact h, fun h => ⟨by simp, _, rfl, h⟩⟩
theorem fld_weight : fldD "weight" ["Rule"] (ruD r) K = K (fD r.weight) := propext ⟨fun ⟨_, x, e, h⟩ => by cases e; exact h, fun h => ⟨by simp, _, rfl, h⟩⟩
theorem fld_tag : fldD "tag" ["Rule"] (ruD r) K = K (.str r.tag) := propext ⟨fun ⟨_, x, e, h⟩ => by cases e; exact h, fun h => ⟨by simp, _, rfl, h⟩⟩
theorem fld_under : fldD "under" ["Rule"] (ruD r) K = K (undD r.under) := propext ⟨fun ⟨_, x, e, h⟩ => by cases e; exact h, fun h => ⟨by simp, _, rfl, h⟩⟩
end
/-- a dict of names -/
def setD (xs : List Str) : List (D × D) := xs.map fun x => (.str x, .bl true)
theorem nk_str {x y : Str} : nk (.str x) = nk (.str y) ↔ x = y := by simp [nk]
theorem getK_set (xs : List Str) (x : Str) : (getK (setD xs) (.str x)).isSome = decide (x ∈ xs) := by
  induction xs with
  | nil => rfl
  | cons y ys ih =>
    by_cases h : y = x
    · rw [show setD (y :: ys) = (.str y, .bl true) :: setD ys from rfl, getK_pos (p := (.str y, .bl true)) (by rw [h])]
      simp [h]
    · rw [show setD (y :: ys) = (.str y, .bl true) :: setD ys from rfl, getK_neg (p := (.str y, .bl true)) (fun z => h (nk_str.mp z)), ih]
      simp [Ne.symm h]
theorem putG_set {xs : List Str} {x : Str} (h : x ∉ xs) : putG (setD xs) (.str x) (.bl true) = setD (xs ++ [x]) := by
  unfold putG
  rw [getK_set, decide_eq_false h, if_neg (by simp)]
  simp [setD]
theorem putG_old {xs : List Str} {x : Str} (h : x ∈ xs) : putG (setD xs) (.str x) (.bl true) = setD xs := by
  unfold putG
  rw [getK_set, decide_eq_true h, if_pos rfl]
  unfold setD
  rw [List.map_map]
  refine List.map_congr_left fun y hy => ?_
  show (if nk (.str y) = nk (.str x) then ((D.str y, D.bl true) : D × D) else (.str y, .bl true)) = _
  split <;> rfl
theorem set_len (xs : List Str) : (setD xs).length = xs.length := by simp [setD]
/-- a weight that the scale takes -/
def takesB (c : Bool) (p : Rat) : Bool := !c || decide (0 < p.num)
def titlesOf (rs : List Ru) : List Str := rs.map (·.title)
/-- the first refusal of weights and titles -/
def firstWT (c : Bool) : List Str → List Ru → Option Str
  | _, [] => none
  | seen, r :: rs => if takesB c r.weight = false then some "NoWeight" else if r.title ∈ seen then some "Twice" else firstWT c (seen ++ [r.title]) rs
def sp_look_at_weights : SpM := fun ds M Q E => match ds with
  | [s, .lst xs] => ∃ c rs, s = scD c ∧ xs = rs.map ruD ∧ rs.length ≤ 1000 ∧ (match firstWT c [] rs with | none => Q (.dic false (setD (titlesOf rs))) M | some e => E e M)
  | _ => False
theorem takes_sc {c : Bool} {s : D} {p : Rat} {M : Mu} {Q : D → Mu → Prop} {E : Str → Mu → Prop} : (if c = true then pur sp_Chance_takes else pur sp_Scale_takes) [s, fD p] M Q E = Q (.bl (takesB c p)) M := by
  cases c
  · rfl
  · exact e_Chance_takes (d := s) (p := p) (Q := fun d => Q d M) (E := fun C => E C M)
theorem del_up {M : Mu} {a : Addr} {o : Ob} (h : M a = none) : delM (updM M a o) a = M := del_upd h
theorem rev_cases {α : Type} (xs : List α) (i : Nat) (x : α) (h : xs[i]? = some x) : xs = xs.take i ++ x :: xs.drop (i + 1) ∧ xs.take (i + 1) = xs.take i ++ [x] := by
  have hl := (List.getElem?_eq_some_iff.mp h).1
  have e := (List.getElem?_eq_some_iff.mp h).2
  refine ⟨?_, ?_⟩
  · rw [← e, ← List.drop_eq_getElem_cons hl, List.take_append_drop]
  · rw [List.take_add_one, h]; rfl
theorem firstWT_app (c : Bool) : ∀ (as bs : List Ru) (seen : List Str), firstWT c seen as = none → firstWT c seen (as ++ bs) = firstWT c (seen ++ titlesOf as) bs
  | [], bs, seen, _ => by simp [titlesOf]
  | a :: as, bs, seen, h => by
    unfold firstWT at h
    split at h
    · cases h
    · rename_i h1
      split at h
      · cases h
      · rename_i h2
        rw [List.cons_append]
        rw [show firstWT c seen (a :: (as ++ bs)) = _ from rfl, firstWT, if_neg h1, if_neg h2, firstWT_app c as bs _ h]
        simp [titlesOf]
theorem r_look_at_weights (ds M Q E) (h : sp_look_at_weights ds M Q E) : t_look_at_weights (pur sp_Chance_takes) (pur sp_Scale_takes) (endsW Q E) (startE [false, true] 4 ds) M := by
  unfold sp_look_at_weights at h
  split at h
  · rename_i s xs
    obtain ⟨c, rs, rfl, rfl, hl, h⟩ := h
    simp! [t_look_at_weights]
    intro a ha
    refine ⟨fun i ρ M' => (∃ r, ρ = [.dat (scD c), .bor (.lst (rs.map ruD)), .dat (.ref a), r]) ∧ firstWT c [] (rs.take i) = none ∧ M' = updM M a (.dic false (setD (titlesOf (rs.take i)))), ⟨⟨_, rfl⟩, rfl, rfl⟩, ?_, ?_⟩
    · rintro i d hd ρ M' ⟨⟨r0, rfl⟩, hw, rfl⟩
      rw [List.getElem?_map] at hd
      obtain ⟨r, hr, rfl⟩ := Option.map_eq_some_iff.mp hd
      obtain ⟨e1, e2⟩ := rev_cases rs i r hr
      have hi := (List.getElem?_eq_some_iff.mp hr).1
      have ew := firstWT_app c (rs.take i) (r :: rs.drop (i + 1)) [] hw
      rw [← e1] at ew
      have ew2 := firstWT_app c (rs.take i) [r] [] hw
      rw [← e2] at ew2
      rw [List.nil_append] at ew ew2
      have tl : (titlesOf (rs.take i)).length < 1000 := by simp [titlesOf]; omega
      simp! [drf_ru, fld_weight, fld_title, drf_sc, meth_sc, takes_sc, getK_set, set_len, upd_updM]
      cases ht : takesB c r.weight with
      | false =>
        have e3 : firstWT c (titlesOf (rs.take i)) (r :: rs.drop (i + 1)) = some ("NoWeight" : Str) := by unfold firstWT; rw [if_pos ht]
        rw [ew, e3] at h
        exact ⟨M, leM.upd ha, h⟩
      | true =>
        simp only [Bool.true_eq_false, if_false]
        by_cases hm : r.title ∈ titlesOf (rs.take i)
        · have e3 : firstWT c (titlesOf (rs.take i)) (r :: rs.drop (i + 1)) = some ("Twice" : Str) := by unfold firstWT; rw [if_neg (by rw [ht]; simp), if_pos hm]
          rw [ew, e3] at h
          rw [if_pos hm]
          exact ⟨M, leM.upd ha, h⟩
        · rw [if_neg hm]
          refine ⟨by omega, ⟨_, rfl⟩, ?_, ?_⟩
          · rw [ew2]; unfold firstWT; rw [if_neg (by rw [ht]; simp), if_neg hm]; rfl
          · rw [putG_set hm, e2]; simp [titlesOf]
    · rintro ρ M' ⟨⟨r0, rfl⟩, hw, rfl⟩
      rw [List.length_map, List.take_length] at hw ⊢
      rw [hw] at h
      simp! [del_upd ha]
      exact ⟨M, leM.refl M, h⟩
  · exact h.elim

/-! kinds -/
def kindsOf (r : Ru) : List Str := r.parts.filter kindB
def headsOf (rs : List Ru) : List Str := rs.map (·.head)
def askedOf (start : Str) (rs : List Ru) : List Str := start :: rs.flatMap kindsOf
def kindsB (start : Str) (rs : List Ru) : Bool := (askedOf start rs).all fun k => decide (k ∈ headsOf rs)
def sp_look_at_kinds : SpM := fun ds M Q E => match ds with
  | [.str s, .lst xs] => ∃ rs, xs = rs.map ruD ∧ rs.length ≤ 1000 ∧ (∀ r ∈ rs, r.parts.length ≤ 4 ∧ ∀ p ∈ r.parts, okS p) ∧ (if kindsB s rs = true then Q .non M else E "NoKind" M)
  | _ => False
theorem putAll (hs : List Str) : ∃ xs : List Str, hs.foldl (fun ks h => putG ks (.str h) (.bl true)) [] = setD xs ∧ (∀ x, x ∈ xs ↔ x ∈ hs) ∧ xs.length ≤ hs.length := by
  have go : ∀ (hs : List Str) (ys : List Str), ∃ xs : List Str, hs.foldl (fun ks h => putG ks (.str h) (.bl true)) (setD ys) = setD xs ∧ (∀ x, x ∈ xs ↔ x ∈ ys ∨ x ∈ hs) ∧ xs.length ≤ ys.length + hs.length := by
    intro hs
    induction hs with
    | nil => exact fun ys => ⟨ys, rfl, fun x => by simp, by simp⟩
    | cons h hs ih =>
      intro ys
      rw [List.foldl_cons]
      by_cases hm : h ∈ ys
      · rw [putG_old hm]
        obtain ⟨xs, e1, e2, e3⟩ := ih ys
        refine ⟨xs, e1, fun x => ?_, by simp; omega⟩
        rw [e2, List.mem_cons]
        constructor
        · rintro (z | z)
          · exact .inl z
          · exact .inr (.inr z)
        · rintro (z | z | z)
          · exact .inl z
          · exact .inl (z ▸ hm)
          · exact .inr z
      · rw [putG_set hm]
        obtain ⟨xs, e1, e2, e3⟩ := ih (ys ++ [h])
        refine ⟨xs, e1, fun x => ?_, by simp at e3 ⊢; omega⟩
        rw [e2]; simp [or_assoc]
  obtain ⟨xs, e1, e2, e3⟩ := go hs []
  exact ⟨xs, e1, fun x => by rw [e2]; simp, by simpa using e3⟩

theorem foldl_take_succ {α β : Type} (f : β → α → β) (b : β) (xs : List α) (i : Nat) (x : α) (h : xs[i]? = some x) : (xs.take (i + 1)).foldl f b = f ((xs.take i).foldl f b) x := by
  rw [(rev_cases xs i x h).2, List.foldl_append]; rfl
theorem flatMap_take_succ {α β : Type} (f : α → List β) (xs : List α) (i : Nat) (x : α) (h : xs[i]? = some x) : (xs.take (i + 1)).flatMap f = (xs.take i).flatMap f ++ f x := by
  rw [(rev_cases xs i x h).2, List.flatMap_append]; simp
theorem asked_len {rs : List Ru} (h : ∀ r ∈ rs, r.parts.length ≤ 4) : (rs.flatMap kindsOf).length ≤ 4 * rs.length := by
  induction rs with
  | nil => simp
  | cons r rs ih =>
    have h1 := ih fun x hx => h x (List.mem_cons_of_mem _ hx)
    have h2 := h r List.mem_cons_self
    have h3 := List.length_filter_le kindB r.parts
    simp only [List.flatMap_cons, List.length_append, List.length_cons, kindsOf] at *
    omega
theorem r_look_at_kinds (ds M Q E) (h : sp_look_at_kinds ds M Q E) : t_look_at_kinds (pur sp_is_kind) (endsW Q E) (startE [false, true] 7 ds) M := by
  unfold sp_look_at_kinds at h
  split at h
  · rename_i s xs
    obtain ⟨rs, rfl, hl, hp, h⟩ := h
    simp! [t_look_at_kinds]
    intro a ha
    refine ⟨fun i ρ M' => (∃ r r4 r5 r6, ρ = [.dat (.str s), .bor (.lst (rs.map ruD)), .dat (.ref a), r, r4, r5, r6]) ∧ M' = updM M a (.dic false ((headsOf (rs.take i)).foldl (fun ks h => putG ks (.str h) (.bl true)) [])), ⟨⟨_, _, _, _, rfl⟩, rfl⟩, ?_, ?_⟩
    · rintro i d hd ρ M' ⟨⟨r0, r4, r5, r6, rfl⟩, rfl⟩
      rw [List.getElem?_map] at hd
      obtain ⟨r, hr, rfl⟩ := Option.map_eq_some_iff.mp hd
      have hi := (List.getElem?_eq_some_iff.mp hr).1
      obtain ⟨ys, y1, y2, y3⟩ := putAll (headsOf (rs.take i))
      simp! [drf_ru, fld_head, upd_updM]
      refine ⟨by rw [y1, set_len]; simp [headsOf] at y3; omega, ⟨_, _, _, _, rfl⟩, ?_⟩
      rw [(rev_cases rs i r hr).2]
      simp [headsOf]
    · rintro ρ M' ⟨⟨r0, r4, r5, r6, rfl⟩, rfl⟩
      rw [List.length_map, List.take_length]
      obtain ⟨ys, y1, y2, y3⟩ := putAll (headsOf rs)
      rw [y1]
      simp! [dSeq]
      refine ⟨fun i ρ M' => (∃ r r5 r6, ρ = [.dat (.str s), .bor (.lst (rs.map ruD)), .dat (.ref a), r, .own ((askedOf s (rs.take i)).map .str), r5, r6]) ∧ M' = updM M a (.dic false (setD ys)), ⟨⟨_, _, _, rfl⟩, rfl⟩, ?_, ?_⟩
      · rintro i d hd ρ M' ⟨⟨r0, r5, r6, rfl⟩, rfl⟩
        rw [List.getElem?_map] at hd
        obtain ⟨r, hr, rfl⟩ := Option.map_eq_some_iff.mp hd
        have hi := (List.getElem?_eq_some_iff.mp hr).1
        obtain ⟨p1, p2⟩ := hp r (List.mem_of_getElem? hr)
        simp! [drf_ru, fld_parts, strT]
        refine lc_filter (fun d => match d with | .str x => kindB x | _ => false) id (by rw [List.length_map]; omega) (fun x hx K N hK hN => ?_) ?_
        · obtain ⟨x, hx', rfl⟩ := List.mem_map.mp hx
          simp! [sp_is_kind]
          refine ⟨(p2 x hx').sz, ?_⟩
          cases hk : kindB x with
          | true => exact hK hk
          | false => exact hN hk
        · have al := asked_len (rs := rs.take i) fun r hr => (hp r (List.mem_of_mem_take hr)).1
          have el : ((r.parts.map D.str).filter fun d => match d with | .str x => kindB x | _ => false) = (kindsOf r).map .str := by
            rw [List.filter_map]; rfl
          rw [el, List.map_id]
          have kl : (kindsOf r).length ≤ 4 := Nat.le_trans (List.length_filter_le _ _) p1
          simp! [List.length_map]
          have al2 : (askedOf s (rs.take i)).length ≤ 4 * rs.length + 1 := by
            unfold askedOf
            rw [List.length_cons]
            rw [List.length_take] at al
            omega
          have ea : askedOf s (rs.take (i + 1)) = askedOf s (rs.take i) ++ kindsOf r := by
            unfold askedOf
            rw [flatMap_take_succ kindsOf rs i r hr]; rfl
          refine ⟨by omega, ?_⟩
          rw [ea, List.map_append]
          exact ⟨_, _, _, rfl⟩
      · rintro ρ M' ⟨⟨r0, r5, r6, rfl⟩, rfl⟩
        rw [List.length_map, List.take_length]
        simp! [dSeq]
        refine ⟨fun i ρ M' => (∃ r5, ρ = [.dat (.str s), .bor (.lst (rs.map ruD)), .dat (.ref a), r0, .dat (.lst ((askedOf s rs).map .str)), r5, r6]) ∧ ((askedOf s rs).take i).all (fun k => decide (k ∈ headsOf rs)) = true ∧ M' = updM M a (.dic false (setD ys)), ⟨⟨_, rfl⟩, by simp, rfl⟩, ?_, ?_⟩
        · rintro i d hd ρ M' ⟨⟨r5, rfl⟩, ha', rfl⟩
          rw [List.getElem?_map] at hd
          obtain ⟨k, hk, rfl⟩ := Option.map_eq_some_iff.mp hd
          simp! [getK_set]
          by_cases hm : k ∈ headsOf rs
          · rw [if_pos ((y2 k).mpr hm)]
            refine ⟨⟨_, rfl⟩, ?_⟩
            rw [(rev_cases _ i k hk).2, List.all_append, ha']
            simp [hm]
          · rw [if_neg (fun z => hm ((y2 k).mp z))]
            have : kindsB s rs = false := by
              unfold kindsB
              rw [List.all_eq_false]
              exact ⟨k, List.mem_of_getElem? hk, by simpa using hm⟩
            rw [this, if_neg (by simp)] at h
            exact ⟨M, leM.upd ha, h⟩
        · rintro ρ M' ⟨⟨r5, rfl⟩, ha', rfl⟩
          rw [List.length_map, List.take_length] at ha'
          have : kindsB s rs = true := ha'
          rw [this, if_pos rfl] at h
          exact ⟨M, leM.upd ha, h⟩
  · exact h.elim
/-! steps -/
abbrev Stp := List (Str × List Str)
def addS (st : Stp) (h p : Str) : Stp := if (st.any fun q => decide (q.1 = h)) = true then st.map (fun q => if q.1 = h then (q.1, q.2 ++ [p]) else q) else st ++ [(h, [p])]
def stepOf (st : Stp) (r : Ru) : Stp := match r.parts with | [p] => if kindB p = true then addS st r.head p else st | _ => st
def stepsOf (rs : List Ru) : Stp := rs.foldl stepOf []
def stD (st : Stp) : List (D × D) := st.map fun q => (.str q.1, .lst (q.2.map .str))
def succ (st : Stp) (k : Str) : List Str := ((st.find? fun q => decide (q.1 = k)).map (·.2)).getD []
inductive Lead (st : Stp) : Str → Str → Prop
  | one {a b : Str} : b ∈ succ st a → Lead st a b
  | more {a b c : Str} : Lead st a b → c ∈ succ st b → Lead st a c
theorem getK_st (st : Stp) (k : Str) : (getK (stD st) (.str k)).getD (.lst []) = .lst ((succ st k).map .str) := by
  induction st with
  | nil => rfl
  | cons q st ih =>
    by_cases h : q.1 = k
    · rw [show stD (q :: st) = (.str q.1, .lst (q.2.map .str)) :: stD st from rfl, getK_pos (p := (.str q.1, .lst (q.2.map .str))) (by rw [h])]
      simp [succ, List.find?_cons, h]
    · rw [show stD (q :: st) = (.str q.1, .lst (q.2.map .str)) :: stD st from rfl, getK_neg (p := (.str q.1, .lst (q.2.map .str))) (fun z => h (nk_str.mp z)), ih]
      simp [succ, List.find?_cons, h]
/-! single_kinds -/
abbrev Tri := Str × Addr × List Str
def trD (tr : List Tri) : List (D × D) := tr.map fun t => (.str t.1, .ref t.2.1)
def trS (tr : List Tri) : Stp := tr.map fun t => (t.1, t.2.2)
structure SK (M M' : Mu) (a : Addr) (tr : List Tri) : Prop where
  le : leM M M'
  fa : M a = none
  dc : M' a = some (.dic false (trD tr))
  ent : ∀ t ∈ tr, M t.2.1 = none ∧ t.2.1 ≠ a ∧ M' t.2.1 = some (.lst (t.2.2.map .str))
  nb : (tr.map (·.2.1)).Nodup
  nh : (tr.map (·.1)).Nodup
theorem getK_tr (tr : List Tri) (h : Str) : (∃ t ∈ tr, t.1 = h ∧ getK (trD tr) (.str h) = some (.ref t.2.1)) ∨ ((∀ t ∈ tr, t.1 ≠ h) ∧ getK (trD tr) (.str h) = none) := by
  induction tr with
  | nil => exact .inr ⟨(fun t ht => nomatch ht), rfl⟩
  | cons t tr ih =>
    by_cases z : t.1 = h
    · refine .inl ⟨t, List.mem_cons_self, z, ?_⟩
      rw [show trD (t :: tr) = (.str t.1, .ref t.2.1) :: trD tr from rfl, getK_pos (p := (.str t.1, .ref t.2.1)) (by rw [z])]
    · rw [show trD (t :: tr) = (.str t.1, .ref t.2.1) :: trD tr from rfl, getK_neg (p := (.str t.1, .ref t.2.1)) (fun y => z (nk_str.mp y))]
      rcases ih with ⟨u, h1, h2, h3⟩ | ⟨h1, h2⟩
      · exact .inl ⟨u, List.mem_cons_of_mem _ h1, h2, h3⟩
      · refine .inr ⟨fun u hu => ?_, h2⟩
        rcases List.mem_cons.mp hu with rfl | hu
        · exact z
        · exact h1 u hu
theorem leM.updO {M M' : Mu} {b : Addr} {o : Ob} (h : leM M M') (hb : M b = none) : leM M (updM M' b o) := fun c ob z => by
  by_cases e : c = b
  · rw [e, hb] at z; cases z
  · show (if c = b then some o else M' c) = _
    rw [if_neg e]; exact h c ob z
theorem leM.none {M M' : Mu} {b : Addr} (h : leM M M') (hb : M' b = none) : M b = none := by
  cases z : M b with
  | none => rfl
  | some o => rw [h b o z] at hb; cases hb
theorem upd_at {M : Mu} {a : Addr} {o : Ob} : updM M a o a = some o := by show (if a = a then some o else M a) = _; rw [if_pos rfl]
theorem upd_ne {M : Mu} {a b : Addr} {o : Ob} (h : b ≠ a) : updM M a o b = M b := by show (if b = a then some o else M b) = _; rw [if_neg h]
theorem SK.junk {M M' : Mu} {a : Addr} {tr : List Tri} (h : SK M M' a tr) {b : Addr} {o : Ob} (hb : M' b = none) : SK M (updM M' b o) a tr := by
  refine ⟨h.le.updO (h.le.none hb), h.fa, ?_, fun t ht => ?_, h.nb, h.nh⟩
  · rw [upd_ne (fun z => by rw [← z, h.dc] at hb; cases hb)]; exact h.dc
  · obtain ⟨e1, e2, e3⟩ := h.ent t ht
    exact ⟨e1, e2, by rw [upd_ne (fun z => by rw [← z, e3] at hb; cases hb)]; exact e3⟩
theorem nodup_one {α β : Type} {f : α → β} : ∀ {l : List α}, (l.map f).Nodup → ∀ {x y : α}, x ∈ l → y ∈ l → f x = f y → x = y
  | [], _, _, _, hx, _, _ => nomatch hx
  | z :: l, hn, x, y, hx, hy, e => by
    rw [List.map_cons, List.nodup_cons] at hn
    rcases List.mem_cons.mp hx with rfl | hx
    · rcases List.mem_cons.mp hy with rfl | hy
      · rfl
      · exact absurd (List.mem_map.mpr ⟨y, hy, e.symm⟩) hn.1
    · rcases List.mem_cons.mp hy with rfl | hy
      · exact absurd (show f y ∈ l.map f from List.mem_map.mpr ⟨x, by assumption, e⟩) hn.1
      · exact nodup_one hn.2 hx hy e
def addT (tr : List Tri) (h p : Str) : List Tri := tr.map fun t => if t.1 = h then (t.1, t.2.1, t.2.2 ++ [p]) else t
theorem SK.old {M M' : Mu} {a : Addr} {tr : List Tri} (k : SK M M' a tr) {t : Tri} (ht : t ∈ tr) {h p : Str} (e : t.1 = h) : SK M (updM M' t.2.1 (.lst (t.2.2.map .str ++ [.str p]))) a (addT tr h p) := by
  have e1 : (addT tr h p).map (·.2.1) = tr.map (·.2.1) := by
    unfold addT; rw [List.map_map]
    exact List.map_congr_left fun u _ => by show (if u.1 = h then (u.1, u.2.1, u.2.2 ++ [p]) else u).2.1 = _; split <;> rfl
  have e2 : (addT tr h p).map (·.1) = tr.map (·.1) := by
    unfold addT; rw [List.map_map]
    exact List.map_congr_left fun u _ => by show (if u.1 = h then (u.1, u.2.1, u.2.2 ++ [p]) else u).1 = _; split <;> rfl
  have e3 : trD (addT tr h p) = trD tr := by
    unfold addT trD; rw [List.map_map]
    exact List.map_congr_left fun u _ => by
      show (D.str (if u.1 = h then (u.1, u.2.1, u.2.2 ++ [p]) else u).1, D.ref (if u.1 = h then (u.1, u.2.1, u.2.2 ++ [p]) else u).2.1) = _
      split <;> rfl
  obtain ⟨t1, t2, t3⟩ := k.ent t ht
  refine ⟨k.le.updO t1, k.fa, ?_, fun u hu => ?_, by rw [e1]; exact k.nb, by rw [e2]; exact k.nh⟩
  · rw [upd_ne (Ne.symm t2), e3]; exact k.dc
  · unfold addT at hu
    obtain ⟨v, hv, rfl⟩ := List.mem_map.mp hu
    obtain ⟨v1, v2, v3⟩ := k.ent v hv
    by_cases z : v.1 = h
    · have : v = t := nodup_one k.nh hv ht (by rw [z, e])
      subst this
      rw [if_pos z]
      exact ⟨v1, v2, by rw [upd_at]; simp⟩
    · rw [if_neg z]
      refine ⟨v1, v2, ?_⟩
      rw [upd_ne (fun y => z ?_)]
      · exact v3
      · have : v = t := nodup_one k.nb hv ht y
        rw [this, e]
theorem SK.new {M M' : Mu} {a : Addr} {tr : List Tri} (k : SK M M' a tr) {b : Addr} (hb : M' b = none) {h p : Str} (e : ∀ t ∈ tr, t.1 ≠ h) : SK M (updM (updM (updM M' b (.lst [])) a (.dic false (trD tr ++ [(.str h, .ref b)]))) b (.lst [.str p])) a (tr ++ [(h, b, [p])]) := by
  have hba : b ≠ a := fun z => by rw [z, k.dc] at hb; cases hb
  have hn : ∀ t ∈ tr, t.2.1 ≠ b := fun t ht z => by have := (k.ent t ht).2.2; rw [z, hb] at this; cases this
  have hMb := k.le.none hb
  refine ⟨((k.le.updO hMb).updO k.fa).updO hMb, k.fa, ?_, fun t ht => ?_, ?_, ?_⟩
  · rw [upd_ne (Ne.symm hba), upd_at]
    unfold trD
    rw [List.map_append]; rfl
  · rcases List.mem_append.mp ht with ht | ht
    · obtain ⟨e1, e2, e3⟩ := k.ent t ht
      exact ⟨e1, e2, by rw [upd_ne (hn t ht), upd_ne e2, upd_ne (hn t ht)]; exact e3⟩
    · rw [List.mem_singleton] at ht
      subst ht
      exact ⟨hMb, hba, by rw [upd_at]; rfl⟩
  · rw [List.map_append, List.nodup_append]
    refine ⟨k.nb, by simp, fun x hx y hy => ?_⟩
    obtain ⟨t, ht, rfl⟩ := List.mem_map.mp hx
    simp only [List.map_cons, List.map_nil, List.mem_singleton] at hy
    rw [hy]; exact hn t ht
  · rw [List.map_append, List.nodup_append]
    refine ⟨k.nh, by simp, fun x hx y hy => ?_⟩
    obtain ⟨t, ht, rfl⟩ := List.mem_map.mp hx
    simp only [List.map_cons, List.map_nil, List.mem_singleton] at hy
    rw [hy]; exact e t ht
theorem trS_old {tr : List Tri} {t : Tri} (ht : t ∈ tr) {h p : Str} (e : t.1 = h) : trS (addT tr h p) = addS (trS tr) h p := by
  unfold addS
  rw [if_pos (by rw [List.any_eq_true]; exact ⟨(t.1, t.2.2), List.mem_map.mpr ⟨t, ht, rfl⟩, decide_eq_true e⟩)]
  unfold trS addT
  rw [List.map_map, List.map_map]
  refine List.map_congr_left fun u _ => ?_
  show ((if u.1 = h then (u.1, u.2.1, u.2.2 ++ [p]) else u).1, (if u.1 = h then (u.1, u.2.1, u.2.2 ++ [p]) else u).2.2) = if u.1 = h then (u.1, u.2.2 ++ [p]) else (u.1, u.2.2)
  split <;> rfl
theorem trS_new {tr : List Tri} {b : Addr} {h p : Str} (e : ∀ t ∈ tr, t.1 ≠ h) : trS (tr ++ [(h, b, [p])]) = addS (trS tr) h p := by
  unfold addS
  rw [if_neg (by
    rw [Bool.not_eq_true, List.any_eq_false]
    intro q hq
    obtain ⟨t, ht, rfl⟩ := List.mem_map.mp hq
    simpa using e t ht)]
  unfold trS
  rw [List.map_append]; rfl
theorem putG_tr {tr : List Tri} {h : Str} {b : Addr} (e : getK (trD tr) (.str h) = none) : putG (trD tr) (.str h) (.ref b) = trD tr ++ [(.str h, .ref b)] := by
  unfold putG
  rw [e, if_neg (by simp)]
theorem addS_len (st : Stp) (h p : Str) : (addS st h p).length ≤ st.length + 1 ∧ ∀ n, (∀ q ∈ st, q.2.length ≤ n) → ∀ q ∈ addS st h p, q.2.length ≤ n + 1 := by
  unfold addS
  split
  · refine ⟨by rw [List.length_map]; omega, fun n hn q hq => ?_⟩
    obtain ⟨u, hu, rfl⟩ := List.mem_map.mp hq
    have := hn u hu
    split
    · simp; omega
    · omega
  · refine ⟨by simp, fun n hn q hq => ?_⟩
    rcases List.mem_append.mp hq with hq | hq
    · have := hn q hq; omega
    · rw [List.mem_singleton] at hq
      subst hq
      simp
theorem stepOf_len (st : Stp) (r : Ru) : (stepOf st r).length ≤ st.length + 1 ∧ ∀ n, (∀ q ∈ st, q.2.length ≤ n) → ∀ q ∈ stepOf st r, q.2.length ≤ n + 1 := by
  have same : st.length ≤ st.length + 1 ∧ ∀ n, (∀ q ∈ st, q.2.length ≤ n) → ∀ q ∈ st, q.2.length ≤ n + 1 := ⟨by omega, fun n h q hq => by have := h q hq; omega⟩
  unfold stepOf
  split
  · split
    · exact addS_len _ _ _
    · exact same
  · exact same
theorem stepsOf_len (rs : List Ru) : (stepsOf rs).length ≤ rs.length ∧ ∀ q ∈ stepsOf rs, q.2.length ≤ rs.length := by
  have go : ∀ (rs : List Ru) (st : Stp) (n : Nat), st.length ≤ n → (∀ q ∈ st, q.2.length ≤ n) → (rs.foldl stepOf st).length ≤ n + rs.length ∧ ∀ q ∈ rs.foldl stepOf st, q.2.length ≤ n + rs.length := by
    intro rs
    induction rs with
    | nil => exact fun st n h1 h2 => ⟨by simpa using h1, by simpa using h2⟩
    | cons r rs ih =>
      intro st n h1 h2
      obtain ⟨g1, g2⟩ := stepOf_len st r
      have := ih (stepOf st r) (n + 1) (by omega) (g2 n h2)
      rw [List.foldl_cons, List.length_cons, show n + (rs.length + 1) = n + 1 + rs.length by omega]
      exact this
  have := go rs [] 0 (by simp) (fun q hq => nomatch hq)
  rwa [Nat.zero_add] at this
theorem frzD_at {i : Nat} {S : DTS} {DD : DEnds} {ρ : List Ent} {M : Mu} {a : Addr} {t : Bool} {ks : List (D × D)} (h1 : ga ρ i = .dat (.ref a)) (h2 : M a = some (.dic t ks)) (h3 : a ∉ refsOf ks) (h : S DD (ρ.set i (.dat (.dic t (ks.map fun p => (p.1, drf M p.2))))) (lessM M (a :: refsOf ks))) : dFrzD i S DD ρ M := by
  unfold dFrzD
  rw [h1]
  dsimp only
  rw [h2]
  exact ⟨h3, h⟩
theorem refs_tr : ∀ tr : List Tri, refsOf (trD tr) = tr.map (·.2.1)
  | [] => rfl
  | t :: tr => by
    show t.2.1 :: refsOf (trD tr) = _
    rw [refs_tr tr]; rfl
def sp_single_kinds : SpM := fun ds M Q _ => match ds with
  | [.lst xs] => ∃ rs : List Ru, xs = rs.map ruD ∧ rs.length ≤ 1000 ∧ (∀ r ∈ rs, ∀ p ∈ r.parts, okS p) ∧ Q (.dic false (stD (stepsOf rs))) M
  | _ => False
theorem r_single_kinds (ds M Q E) (h : sp_single_kinds ds M Q E) : t_single_kinds (pur sp_is_kind) (endsW Q E) (startE [true] 4 ds) M := by
  unfold sp_single_kinds at h
  split at h
  · rename_i xs
    obtain ⟨rs, rfl, hl, hp, h⟩ := h
    simp! [t_single_kinds]
    intro a ha
    refine ⟨fun i ρ M' => (∃ r r3, ρ = [.bor (.lst (rs.map ruD)), .dat (.ref a), r, r3]) ∧ ∃ tr, SK M M' a tr ∧ trS tr = stepsOf (rs.take i), ⟨⟨_, _, rfl⟩, [], ⟨leM.upd ha, ha, upd_at, fun t ht => (nomatch ht), by simp, by simp⟩, rfl⟩, ?_, ?_⟩
    · rintro i d hd ρ M' ⟨⟨r2, r3, rfl⟩, tr, sk, et⟩
      rw [List.getElem?_map] at hd
      obtain ⟨r, hr, rfl⟩ := Option.map_eq_some_iff.mp hd
      have hi := (List.getElem?_eq_some_iff.mp hr).1
      have e1 : stepsOf (rs.take (i + 1)) = stepOf (stepsOf (rs.take i)) r := foldl_take_succ _ _ _ _ _ hr
      have hpr := hp r (List.mem_of_getElem? hr)
      rw [← et] at e1
      obtain ⟨sl1, sl2⟩ := stepsOf_len (rs.take i)
      rw [← et] at sl1 sl2
      rw [List.length_take] at sl1 sl2
      have trl : (trD tr).length ≤ 1000 := by
        have : (trD tr).length = (trS tr).length := by simp [trD, trS]
        omega
      have hit : ∀ t ∈ tr, t.2.2.length ≤ 1000 := fun t ht => by
        have := sl2 (t.1, t.2.2) (List.mem_map.mpr ⟨t, ht, rfl⟩)
        dsimp only at this
        omega
      have same : stepOf (trS tr) r = trS tr → ((∃ r_1 r3_1, [Ent.bor (.lst (rs.map ruD)), .dat (.ref a), .dat (ruD r), r3] = [Ent.bor (.lst (rs.map ruD)), .dat (.ref a), r_1, r3_1]) ∧ ∃ tr, SK M M' a tr ∧ trS tr = stepsOf (rs.take (i + 1))) := fun z => ⟨⟨_, _, rfl⟩, tr, sk, by rw [e1, z]⟩
      rcases hps : r.parts with _ | ⟨p, _ | ⟨q, ps⟩⟩
      · simp! [drf_ru, fld_parts, strT, List.length_map, fld_head, hps]
        exact same (by unfold stepOf; rw [hps])
      · have okp := hpr p (by rw [hps]; simp)
        simp! [drf_ru, fld_parts, strT, List.length_map, fld_head, hps, sp_is_kind, sk.dc]
        refine ⟨okp.sz, ?_⟩
        cases hk : kindB p with
        | false =>
          exact same (by unfold stepOf; rw [hps]; dsimp only; rw [hk, if_neg (by simp)])
        | true =>
          have est : stepOf (trS tr) r = addS (trS tr) r.head p := by unfold stepOf; rw [hps]; dsimp only; rw [hk, if_pos rfl]
          simp only [if_true]
          intro b hb
          have hba : a ≠ b := fun z => by rw [← z, sk.dc] at hb; cases hb
          have e2 : updM M' b (.lst []) a = some (.dic false (trD tr)) := by rw [upd_ne hba]; exact sk.dc
          rw [e2]
          refine ⟨rfl, by omega, ?_⟩
          have sj := sk.junk (o := .lst []) hb
          rcases getK_tr tr r.head with ⟨t, ht, ht2, hg⟩ | ⟨hno, hg⟩
          · obtain ⟨t1, t2, t3⟩ := sj.ent t ht
            unfold setdK
            rw [hg]
            dsimp only
            simp only [t3]
            refine ⟨trivial, by rw [List.length_map]; have := hit t ht; omega, ⟨_, _, rfl⟩, addT tr r.head p, sj.old ht ht2, ?_⟩
            rw [e1, est, trS_old ht ht2]
          · unfold setdK
            rw [hg]
            dsimp only
            have e3 : updM (updM M' b (.lst [])) a (.dic false (putG (trD tr) (.str r.head) (.ref b))) b = some (.lst []) := by rw [upd_ne (Ne.symm hba), upd_at]
            simp only [e3]
            refine ⟨trivial, by simp, ⟨_, _, rfl⟩, tr ++ [(r.head, b, [p])], ?_, ?_⟩
            · rw [putG_tr hg]
              exact sk.new hb hno
            · rw [e1, est, trS_new hno]
      · simp! [drf_ru, fld_parts, strT, List.length_map, fld_head, hps]
        rw [if_neg (by omega)]
        exact same (by unfold stepOf; rw [hps])
    · rintro ρ M' ⟨⟨r2, r3, rfl⟩, tr, sk, et⟩
      rw [List.length_map, List.take_length] at et
      refine frzD_at (i := 1) (ρ := [Ent.bor (.lst (rs.map ruD)), .dat (.ref a), r2, r3]) (a := a) (t := false) (ks := trD tr) rfl sk.dc ?_ ?_
      · rw [refs_tr]
        intro z
        obtain ⟨u, hu, e⟩ := List.mem_map.mp z
        exact (sk.ent u hu).2.1 e
      · have e : (trD tr).map (fun p => (p.1, drf M' p.2)) = stD (stepsOf rs) := by
          rw [← et]
          unfold trD stD trS
          rw [List.map_map, List.map_map]
          refine List.map_congr_left fun u hu => ?_
          show (D.str u.1, drf M' (.ref u.2.1)) = (D.str u.1, D.lst (u.2.2.map .str))
          rw [drf_ref, (sk.ent u hu).2.2]; rfl
        rw [e]
        refine ⟨M, fun b ob z => ?_, h⟩
        show (if b ∈ a :: refsOf (trD tr) then none else M' b) = some ob
        rw [if_neg, sk.le b ob z]
        rw [refs_tr]
        intro y
        rcases List.mem_cons.mp y with rfl | y
        · rw [sk.fa] at z; cases z
        · obtain ⟨u, hu, rfl⟩ := List.mem_map.mp y
          rw [(sk.ent u hu).1] at z; cases z
  · exact h.elim
/-! comes_back -/
def remS (st : Stp) (met : List Str) : Nat := ((st.filter fun q => decide (q.1 ∉ met)).map fun q => q.2.length).sum
theorem remS_cons (q : Str × List Str) (st : Stp) (met : List Str) : remS (q :: st) met = (if q.1 ∈ met then 0 else q.2.length) + remS st met := by
  unfold remS
  rw [List.filter_cons]
  by_cases h : q.1 ∈ met
  · rw [if_neg (by simpa using h), if_pos h]; omega
  · rw [if_pos (by simpa using h), if_neg h, List.map_cons, List.sum_cons]
theorem remS_mono (st : Stp) (met : List Str) (x : Str) : remS st (met ++ [x]) ≤ remS st met := by
  induction st with
  | nil => exact Nat.le_refl _
  | cons q st ih =>
    rw [remS_cons, remS_cons]
    by_cases h : q.1 ∈ met
    · rw [if_pos h, if_pos (List.mem_append_left _ h)]; omega
    · rw [if_neg h]; split <;> omega
theorem succ_cons (q : Str × List Str) (st : Stp) (k : Str) : succ (q :: st) k = if q.1 = k then q.2 else succ st k := by
  unfold succ
  rw [List.find?_cons]
  by_cases h : q.1 = k
  · simp [h]
  · simp [h]
theorem remS_succ (st : Stp) (met : List Str) (x : Str) (hx : x ∉ met) : remS st (met ++ [x]) + (succ st x).length ≤ remS st met := by
  induction st with
  | nil => exact Nat.le_refl _
  | cons q st ih =>
    rw [remS_cons, remS_cons, succ_cons]
    by_cases h : q.1 = x
    · rw [if_pos (by rw [h]; simp), if_pos h, if_neg (by rw [h]; exact hx)]
      have := remS_mono st met x
      omega
    · rw [if_neg h]
      by_cases h2 : q.1 ∈ met
      · rw [if_pos h2, if_pos (List.mem_append_left _ h2)]; omega
      · rw [if_neg h2, if_neg (by simp [h, h2])]; omega
theorem remS_all (st : Stp) (n : Nat) (h : ∀ q ∈ st, q.2.length ≤ n) : remS st [] ≤ n * st.length ∧ ∀ k, (succ st k).length ≤ n := by
  induction st with
  | nil => exact ⟨Nat.le_refl _, fun k => Nat.zero_le _⟩
  | cons q st ih =>
    obtain ⟨h1, h2⟩ := ih fun x hx => h x (List.mem_cons_of_mem _ hx)
    have h3 := h q List.mem_cons_self
    refine ⟨?_, fun k => ?_⟩
    · rw [remS_cons, if_neg (by simp), List.length_cons, Nat.mul_succ]; omega
    · rw [succ_cons]; split
      · exact h3
      · exact h2 k
def sp_comes_back : SpM := fun ds M Q _ => match ds with
  | [.dic false ks, .str k] => ∃ st : Stp, ks = stD st ∧ st.length ≤ 1000 ∧ (∀ q ∈ st, q.2.length ≤ 1000) ∧ ∀ b, (b = true ↔ Lead st k k) → Q (.bl b) M
  | _ => False
theorem r_comes_back (ds M Q E) (h : sp_comes_back ds M Q E) : t_comes_back (endsW Q E) (startE [false, false] 5 ds) M := by
  unfold sp_comes_back at h
  split at h
  · rename_i ks k
    obtain ⟨st, rfl, hl, hs, h⟩ := h
    obtain ⟨r1, r2⟩ := remS_all st 1000 hs
    have hl2 : 1000 * st.length ≤ 1000000 := by omega
    simp! [t_comes_back, getK_st]
    intro a ha
    refine ⟨fun n ρ M' => ∃ (met wt : List Str) (r : Ent), ρ = [.dat (.dic false (stD st)), .dat (.str k), .dat (.ref a), .own (wt.map .str), r] ∧ n = wt.length + remS st met ∧ met.length + n ≤ 2000000 ∧ M' = updM M a (.dic false (setD met)) ∧ (∀ x ∈ met, Lead st k x) ∧ (∀ x ∈ wt, Lead st k x) ∧ (∀ x, x = k ∨ x ∈ met → ∀ y ∈ succ st x, y ∈ met ∨ y ∈ wt) ∧ k ∉ met, ⟨_, [], succ st k, _, rfl, rfl, ?_, rfl, fun x hx => (nomatch hx), fun x hx => .one hx, fun x hx y hy => ?_, by simp⟩, ?_⟩
    · have := r2 k; simp; omega
    · rcases hx with rfl | hx
      · exact .inr hy
      · nomatch hx
    · rintro n ρ M' ⟨met, wt, r, rfl, rfl, hn, rfl, hm, hw, hc, hk⟩
      have hcat : wt = [] ∨ ∃ ws w, wt = ws ++ [w] := by
        rcases List.eq_nil_or_concat wt with z | ⟨ws, w, z⟩
        · exact .inl z
        · exact .inr ⟨ws, w, by rw [z, List.concat_eq_append]⟩
      rcases hcat with rfl | ⟨ws, w, rfl⟩
      · simp! [List.length_map]
        refine ⟨M, leM.upd ha, h false ⟨fun z => (nomatch z), fun z => ?_⟩⟩
        have all : ∀ x, Lead st k x → x ∈ met := fun x hx => by
          induction hx with
          | one hb => rcases hc k (.inl rfl) _ hb with y | y
                      · exact y
                      · nomatch y
          | more _ hcb ih => rcases hc _ (.inr ih) _ hcb with y | y
                             · exact y
                             · nomatch y
        exact absurd (all k z) hk
      · have e1 : ((ws ++ [w]).map D.str).getLast? = some (.str w) := by rw [List.map_append]; simp
        have e2 : ((ws ++ [w]).map D.str).dropLast = ws.map .str := by rw [List.map_append]; simp
        have lw := hw w (by simp)
        have ew : (ws ++ [w]).length = ws.length + 1 := by simp
        simp! [List.length_map, e1, e2, getK_set, set_len, upd_updM, getK_st]
        rw [if_pos (by omega)]
        refine ⟨_, rfl, ?_⟩
        simp! [List.length_map, getK_set, set_len, upd_updM, getK_st]
        by_cases hwk : w = k
        · subst hwk
          rw [if_pos rfl]
          exact ⟨M, leM.upd ha, h true ⟨fun _ => lw, fun _ => rfl⟩⟩
        · rw [if_neg hwk]
          by_cases hwm : w ∈ met
          · rw [if_pos hwm]
            refine ⟨_, ?_, met, ws, _, rfl, rfl, by omega, rfl, hm, fun x hx => hw x (List.mem_append_left _ hx), fun x hx y hy => ?_, hk⟩
            · omega
            · rcases hc x hx y hy with z | z
              · exact .inl z
              · rcases List.mem_append.mp z with z | z
                · exact .inr z
                · rw [List.mem_singleton] at z
                  exact .inl (z ▸ hwm)
          · rw [if_neg hwm]
            have rs := remS_succ st met w hwm
            have r2w := r2 w
            refine ⟨by omega, by omega, _, ?_, met ++ [w], ws ++ succ st w, _, by rw [List.map_append], rfl, ?_, by rw [putG_set hwm], fun x hx => ?_, fun x hx => ?_, fun x hx y hy => ?_, ?_⟩
            · rw [List.length_append]; omega
            · rw [List.length_append, List.length_append, List.length_singleton]; omega
            · rcases List.mem_append.mp hx with z | z
              · exact hm x z
              · rw [List.mem_singleton] at z; exact z ▸ lw
            · rcases List.mem_append.mp hx with z | z
              · exact hw x (List.mem_append_left _ z)
              · exact .more lw z
            · by_cases hxw : x = w
              · subst hxw
                exact .inr (List.mem_append_right _ hy)
              · have hx' : x = k ∨ x ∈ met := by
                  rcases hx with z | z
                  · exact .inl z
                  · rcases List.mem_append.mp z with z | z
                    · exact .inr z
                    · exact absurd (List.mem_singleton.mp z) hxw
                rcases hc x hx' y hy with z | z
                · exact .inl (List.mem_append_left _ z)
                · rcases List.mem_append.mp z with z | z
                  · exact .inr (List.mem_append_left _ z)
                  · exact .inl (List.mem_append_right _ z)
            · intro z
              rcases List.mem_append.mp z with z | z
              · exact hk z
              · exact hwk (List.mem_singleton.mp z).symm
  · exact h.elim
/-! Grammar -/
def undersB (rs : List Ru) : Bool := rs.all fun r => (r.under.getD []).all fun u => decide (u ∈ titlesOf rs)
def Ring (rs : List Ru) : Prop := ∃ k, Lead (stepsOf rs) k k
/-- what comes of making a grammar: none, or the refusal's class -/
def GramIs (w s : Str) (rs : List Ru) (o : Option Str) : Prop :=
  (w ≠ "cost" ∧ w ≠ "chance" ∧ o = some "NoScale") ∨ ∃ c, w = wordS c ∧ ((∃ e, firstWT c [] rs = some e ∧ o = some e) ∨ (firstWT c [] rs = none ∧ ((undersB rs = false ∧ o = some "NoTitle") ∨ (undersB rs = true ∧ ((kindsB s rs = false ∧ o = some "NoKind") ∨ (kindsB s rs = true ∧ ((Ring rs ∧ o = some "Ring") ∨ (¬ Ring rs ∧ o = none))))))))
def grF (w s : Str) (rs : List Ru) : List (Str × D) := [("scale", .str w), ("start", .str s), ("rules", .tup (rs.map ruD))]
def grD (w s : Str) (rs : List Ru) : D := .obj "Grammar" (grF w s rs)
def rsOk (rs : List Ru) : Prop := rs.length ≤ 1000 ∧ ∀ r ∈ rs, RuOk r ∧ r.parts.length ≤ 4
def sp_Grammar_init : SpM := fun ds M Q E => match ds with
  | [.ref a, .str w, .str s, .lst xs] => M a = some (.ins "Grammar" []) ∧ ∃ rs : List Ru, xs = rs.map ruD ∧ rsOk rs ∧ ∀ o, GramIs w s rs o → (match o with | none => Q .non (updM M a (.ins "Grammar" (grF w s rs))) | some e => E e M)
  | _ => False
theorem Lead.key {st : Stp} {a b : Str} (h : Lead st a b) : a ∈ st.map (·.1) := by
  have one : ∀ {x y : Str}, y ∈ succ st x → x ∈ st.map (·.1) := fun {x y} hy => by
    unfold succ at hy
    cases z : st.find? fun q => decide (q.1 = x) with
    | none => rw [z] at hy; nomatch hy
    | some q =>
      have h1 := List.mem_of_find?_eq_some z
      have h2 := List.find?_some z
      exact List.mem_map.mpr ⟨q, h1, by simpa using h2⟩
  induction h with
  | one hb => exact one hb
  | more _ _ ih => exact ih
theorem fst_stD (st : Stp) : (stD st).map (·.1) = (st.map (·.1)).map .str := by unfold stD; rw [List.map_map, List.map_map]; rfl
theorem r_Grammar_init (ds M Q E) (h : sp_Grammar_init ds M Q E) : t_Grammar_init sp_look_at_weights (pur sp_scale_of) sp_look_at_kinds sp_single_kinds sp_comes_back (endsOf Q E) (startE [false, false, false, true] 9 ds) M := by
  unfold sp_Grammar_init at h
  split at h
  · rename_i a w s xs
    obtain ⟨hM, rs, rfl, ⟨hl, ho⟩, h⟩ := h
    have hsc : (w ≠ "cost" ∧ w ≠ "chance") ∨ ∃ c, w = wordS c := by
      by_cases h1 : w = "cost"
      · exact .inr ⟨false, h1⟩
      · by_cases h2 : w = "chance"
        · exact .inr ⟨true, h2⟩
        · exact .inl ⟨h1, h2⟩
    rcases hsc with ⟨n1, n2⟩ | ⟨c, rfl⟩
    · simp! [t_Grammar_init, sp_scale_of, n1, n2]
      exact h (some "NoScale") (.inl ⟨n1, n2, rfl⟩)
    · simp! [t_Grammar_init, e_scale_of]
      refine ⟨c, rs, rfl, rfl, hl, ?_⟩
      cases hw : firstWT c [] rs with
      | some e => exact h (some e) (.inr ⟨c, rfl, .inl ⟨e, hw, rfl⟩⟩)
      | none =>
        have h1 : ∀ o : Option Str, ((undersB rs = false ∧ o = some "NoTitle") ∨ (undersB rs = true ∧ ((kindsB s rs = false ∧ o = some "NoKind") ∨ (kindsB s rs = true ∧ ((Ring rs ∧ o = some "Ring") ∨ (¬ Ring rs ∧ o = none)))))) → (match o with | none => Q .non (updM M a (.ins "Grammar" (grF (wordS c) s rs))) | some e => E e M) := fun o z => h o (.inr ⟨c, rfl, .inr ⟨hw, z⟩⟩)
        clear h
        simp! [dSeq]
        refine ⟨fun i ρ M' => (∃ r5 r6, ρ = [.dat (.ref a), .dat (.str (wordS c)), .dat (.str s), .bor (.lst (rs.map ruD)), .dat (.dic false (setD (titlesOf rs))), r5, r6, .un, .un]) ∧ ((rs.take i).all fun r => (r.under.getD []).all fun u => decide (u ∈ titlesOf rs)) = true ∧ M' = M, ⟨⟨_, _, rfl⟩, by simp, rfl⟩, ?_, ?_⟩
        · rintro i d hd ρ M' ⟨⟨r5, r6, rfl⟩, hu, rfl⟩
          rw [List.getElem?_map] at hd
          obtain ⟨r, hr, rfl⟩ := Option.map_eq_some_iff.mp hd
          have hu1 : ((r.under.getD []).all fun u => decide (u ∈ titlesOf rs)) = true → ((rs.take (i + 1)).all fun r => (r.under.getD []).all fun u => decide (u ∈ titlesOf rs)) = true := fun z => by
            rw [(rev_cases rs i r hr).2, List.all_append, hu]
            simp only [List.all_cons, List.all_nil, z, Bool.and_true]
          have hu0 : ∀ us u, r.under = some us → u ∈ us → u ∉ titlesOf rs → E "NoTitle" M' := fun us u e1 e2 e3 => h1 (some "NoTitle") (.inl ⟨by
            unfold undersB
            rw [List.all_eq_false]
            refine ⟨r, List.mem_of_getElem? hr, ?_⟩
            rw [e1, Bool.not_eq_true, Option.getD_some, List.all_eq_false]
            exact ⟨u, e2, by simpa using e3⟩, rfl⟩)
          have ih : ∀ us : List Str, r.under = some us → ∀ (i' : Nat) (u : Str), us[i']? = some u → ¬ u ∈ titlesOf rs → E "NoTitle" M' := fun us e i' u hu' hn => hu0 us u e (List.mem_of_getElem? hu') hn
          cases hun : r.under with
          | none =>
            simp! [drf_ru, fld_under, hun, undD]
            refine ⟨fun _ ρ M2 => (∃ r6, ρ = [.dat (.ref a), .dat (.str (wordS c)), .dat (.str s), .bor (.lst (rs.map ruD)), .dat (.dic false (setD (titlesOf rs))), .dat (ruD r), r6, .un, .un]) ∧ M2 = M', ⟨⟨_, rfl⟩, rfl⟩, fun i' d hd => (nomatch hd), ?_⟩
            rintro ρ M2 ⟨⟨r6, rfl⟩, rfl⟩
            exact ⟨⟨_, _, rfl⟩, hu1 (by rw [hun]; rfl), rfl⟩
          | some us =>
            have fin : ∀ bk ct, dForI (dgName 6) (dIf (dTst (dOp oNotIn (dVarR 6) (dVarR 4))) (dRaise "NoTitle") dNext) { nx := fun ρ M'_1 => (∃ r5 r6, ρ = [.dat (.ref a), .dat (.str (wordS c)), .dat (.str s), .bor (.lst (rs.map ruD)), .dat (.dic false (setD (titlesOf rs))), r5, r6, .un, .un]) ∧ ((rs.take (i + 1)).all fun r => (r.under.getD []).all fun u => decide (u ∈ titlesOf rs)) = true ∧ M'_1 = M', rt := Q, bk := bk, ct := ct, ex := fun C _ => E C } (us.map .str) [.dat (.ref a), .dat (.str (wordS c)), .dat (.str s), .bor (.lst (rs.map ruD)), .dat (.dic false (setD (titlesOf rs))), .dat (ruD r), r6, .un, .un] M' := by
              intro bk ct
              refine ⟨fun j ρ M2 => (∃ r6, ρ = [.dat (.ref a), .dat (.str (wordS c)), .dat (.str s), .bor (.lst (rs.map ruD)), .dat (.dic false (setD (titlesOf rs))), .dat (ruD r), r6, .un, .un]) ∧ ((us.take j).all fun u => decide (u ∈ titlesOf rs)) = true ∧ M2 = M', ⟨⟨_, rfl⟩, by simp, rfl⟩, ?_, ?_⟩
              · rintro j d hd ρ M2 ⟨⟨r6, rfl⟩, hj, rfl⟩
                rw [List.getElem?_map] at hd
                obtain ⟨u, hu', rfl⟩ := Option.map_eq_some_iff.mp hd
                simp! [getK_set]
                by_cases hm : u ∈ titlesOf rs
                · rw [if_pos hm]
                  refine ⟨⟨_, rfl⟩, ?_⟩
                  rw [(rev_cases us j u hu').2, List.all_append, hj]
                  simp [hm]
                · rw [if_neg hm]
                  exact ih us hun j u hu' hm
              · rintro ρ M2 ⟨⟨r6, rfl⟩, hj, rfl⟩
                rw [List.length_map, List.take_length] at hj
                exact ⟨⟨_, _, rfl⟩, hu1 (by rw [hun]; exact hj), rfl⟩
            simp! [drf_ru, fld_under, hun, undD, strT]
            by_cases he : (us.map D.str).isEmpty = false
            · rw [if_pos he]
              exact fin _ _
            · rw [if_neg he]
              have hz : us = [] := by
                cases us with
                | nil => rfl
                | cons u us => exact absurd rfl he
              rw [hz] at fin
              exact fin _ _
        · rintro ρ M' ⟨⟨r5, r6, rfl⟩, hu, rfl⟩
          rw [List.length_map, List.take_length] at hu
          have hu : undersB rs = true := hu
          simp! [dSeq]
          refine ⟨rs, rfl, hl, fun r hr => ⟨(ho r hr).2, (ho r hr).1.p⟩, ?_⟩
          cases hk : kindsB s rs with
          | false =>
            rw [if_neg (by simp)]
            exact h1 (some "NoKind") (.inr ⟨hu, .inl ⟨hk, rfl⟩⟩)
          | true =>
            rw [if_pos rfl]
            have h2 : ∀ o : Option Str, ((Ring rs ∧ o = some "Ring") ∨ (¬ Ring rs ∧ o = none)) → (match o with | none => Q .non (updM M' a (.ins "Grammar" (grF (wordS c) s rs))) | some e => E e M') := fun o z => h1 o (.inr ⟨hu, .inr ⟨hk, z⟩⟩)
            refine ⟨rs, rfl, hl, fun r hr => (ho r hr).1.p, ?_⟩
            simp! [fst_stD]
            refine ⟨fun i ρ M2 => (∃ r8, ρ = [.dat (.ref a), .dat (.str (wordS c)), .dat (.str s), .bor (.lst (rs.map ruD)), .dat (.dic false (setD (titlesOf rs))), r5, r6, .dat (.dic false (stD (stepsOf rs))), r8]) ∧ (∀ k ∈ ((stepsOf rs).map (·.1)).take i, ¬ Lead (stepsOf rs) k k) ∧ M2 = M', ⟨⟨_, rfl⟩, by simp, rfl⟩, ?_, ?_⟩
            · rintro i d hd ρ M2 ⟨⟨r8, rfl⟩, hi, rfl⟩
              rw [List.getElem?_map] at hd
              obtain ⟨k, hk', rfl⟩ := Option.map_eq_some_iff.mp hd
              obtain ⟨s1, s2⟩ := stepsOf_len rs
              simp! [dSeq]
              refine ⟨stepsOf rs, rfl, by omega, fun q hq => by have := s2 q hq; omega, fun b hb => ?_⟩
              cases b with
              | true =>
                simp! [dSeq]
                exact h2 (some "Ring") (.inl ⟨⟨k, hb.mp rfl⟩, rfl⟩)
              | false =>
                simp! [dSeq]
                refine ⟨⟨_, rfl⟩, fun x hx => ?_⟩
                rw [(rev_cases _ i k hk').2] at hx
                rcases List.mem_append.mp hx with z | z
                · exact hi x z
                · rw [List.mem_singleton] at z
                  subst z
                  exact fun y => nomatch hb.mpr y
            · rintro ρ M2 ⟨⟨r8, rfl⟩, hi, rfl⟩
              rw [List.length_map, List.take_length] at hi
              simp! [hM, upd_updM]
              exact h2 none (.inr ⟨fun ⟨k, hk'⟩ => hi k hk'.key hk', rfl⟩)
  · exact h.elim

end Z

namespace Z
open PySem L2
local macro_rules | `(tactic| simp! [$xs,*]) => `(tactic| simp only [$xs,*, ↓dSeq, ↓dAsg, ↓dOp, ↓dVar, ↓dVarR, ↓dC, ↓dCall, ↓dCons, ↓dNil, ↓dIf, ↓dRet, ↓dRetN, ↓dTup, ↓dTst, ↓dNeg, ↓dNext, ↓dCB, ↓dLstOf, ↓dLst, ↓dCat, ↓dSlL, ↓dSlS, ↓dONone, ↓dOSome, ↓dList1, ↓dChain, ↓dChain3, ↓dAndT, ↓dOrT, ↓dNotT, ↓dAndV, ↓dOrV, ↓dNotV, ↓dIfE, ↓dTru, ↓dOwn, ↓dAsgG, ↓dPar, ↓dDrop, ↓dAugI, ↓dBreak, ↓dCont, ↓dgName, ↓dgNil, ↓dgCons, ↓dgTup, ↓dFrz, ↓frzE, ↓dItA, ↓dItB, ↓dRng1, ↓dRng2, ↓dEnum, ↓dFor, ↓dSM, ↓dSM0, ↓dRepN, ↓dLc, ↓dYes, ↓wipeE, ↓dStore, ↓dLmut, ↓lmPre, ↓lmAt, ↓isLst, ↓kNx, ↓kSet, ↓lmAppend, ↓lmExtend, ↓lmPop, ↓lmPopAt, ↓lmClear, ↓lmInsert, ↓lmSet, ↓dAugL, ↓dAugS, ↓lmAugS, ↓dMake, ↓dMake0, ↓dMeth, ↓dFld, ↓dSetF, ↓dTry, ↓dTryM, ↓exM, ↓dRaise, ↓endsOf, ↓startE, ↓entOf, ↓ga, ↓pur, ↓dDnew, ↓dDput, ↓dDget, ↓dDsetd, ↓dLmX, ↓dFrzM, ↓dZip, ↓dZipM, ↓dListRev, ↓oListRev, ↓dOrG, ↓dLstM, ↓onDic, ↓onDicR, ↓onLst, ↓obD, ↓dVarP, ↓dItC, ↓onIns, ↓endsW, ↓dLidx, ↓isLD, ↓oIdx, ↓dTake, ↓dLendT, ↓dLendE, ↓lendE, ↓lend1, ↓dFzv, ↓fzv, ↓dStoreX, ↓dLidxD, ↓dGive, ↓dZip3, ↓dListD, ↓drf_int, ↓drf_str, ↓drf_bl, ↓drf_non, ↓drf_lst, ↓drf_tup, ↓drf_obj, ↓drf_dic, ↓drf_cls, ↓drf_exc, ↓drf_ty, ↓drf_ref, ↓drfO_dic, ↓drfO_lst, ↓drfO_ins, ↓drfO_non, ↓oLen_d, ↓oIn_d, ↓oNotIn_d, ↓oIn_dt, ↓oNotIn_dt, ↓kOkB_s, ↓kOkB_i, ↓oAdd_i, ↓oAdd_s, ↓oAdd_t, ↓oAdd_l, ↓oSub_i, ↓oMul_i, ↓oMulW_i, ↓oMulA_i, ↓oMulA_s, ↓oFdiv_i, ↓oMod_i, ↓oPow_i, ↓oLt_i, ↓oLtA_i, ↓oLe_i, ↓oGt_i, ↓oGe_i, ↓oEq_i, ↓oEq_s, ↓oEq_b, ↓oEq_nn, ↓oEq_ni, ↓oEq_in, ↓oEq_ns, ↓oEq_sn, ↓oNe_i, ↓oNe_s, ↓oNe_b, ↓oNe_nn, ↓oNe_ni, ↓oNe_in, ↓oNe_ns, ↓oNe_sn, ↓oIsN_, ↓oNotN_, ↓isNon_int, ↓isNon_str, ↓isNon_bl, ↓isNon_non, ↓isNon_lst, ↓isNon_tup, ↓isNon_obj, ↓isNon_exc, ↓isNon_dic, ↓oLen_s, ↓oLen_l, ↓oLen_t, ↓oAbs_, ↓oMax2_, ↓oMin2_, ↓oMinT_, ↓oMaxT_, ↓oInt1_i, ↓oInt1_b, ↓oInt1_s, ↓oStr1_, ↓oTuple1_l, ↓oTuple1_t, ↓oList1_l, ↓oList1_t, ↓oListD_d, ↓oCat_l, ↓truD_n, ↓truD_b, ↓truD_i, ↓truD_s, ↓truD_l, ↓truD_t, ↓onStr_s, ↓soStarts_, ↓soUpper_, ↓soLower_, ↓soIsupper_, ↓soFind_, ↓soStrip_, ↓soPart_, ↓soSplit_, ↓soJoin_l, ↓soJoin_t, ↓oSlL_l, ↓oSlS_l, ↓oSlS_t, ↓oSlS_s, ↓isi_int_int, ↓isi_int_str, ↓isi_int_bool, ↓isi_int_NoneType, ↓isi_int_list, ↓isi_int_tuple, ↓isi_bool_int, ↓isi_bool_str, ↓isi_bool_bool, ↓isi_bool_NoneType, ↓isi_bool_list, ↓isi_bool_tuple, ↓isi_tuple_int, ↓isi_tuple_str, ↓isi_tuple_bool, ↓isi_tuple_NoneType, ↓isi_tuple_list, ↓isi_tuple_tuple, ↓isi_str_int, ↓isi_str_str, ↓isi_str_bool, ↓isi_str_NoneType, ↓isi_str_list, ↓isi_str_tuple, ↓isi_list_int, ↓isi_list_str, ↓isi_list_bool, ↓isi_list_NoneType, ↓isi_list_list, ↓isi_list_tuple, ↓oIx_t0, ↓oIx_l0, ↓oIx_t1, ↓oIx_l1, ↓oIx_t2, ↓oIx_l2, ↓oIx_t3, ↓oIx_l3, ↓oIx_t4, ↓oIx_l4, ↓oIx_t5, ↓oIx_l5, ↓oIx_f0, ↓oIx_f1, ↓drf_fD, ↓oLen_f, ↓isi_tuple_f, ↓isi_int_f, ↓eq_fD, ↓ne_fD, ofS_inj, mem_ofS, mem_ofS0, putD_nil, putD_cons, updM_same, String.reduceEq, Nat.reduceLT, true_or, or_true, false_or, or_false, true_and, and_true, false_and, and_false, List.set_cons_zero, List.set_cons_succ, List.map_cons, List.map_nil, if_true, if_false, Bool.false_eq_true, decide_eq_true_eq, List.length_cons, List.length_nil, Int.reduceNe, Int.reduceLT, Int.reduceLE, Int.reduceEq, Int.reduceToNat, Int.reducePow, Int.reduceNeg, Int.reduceAdd, Int.reduceMul, Int.reduceSub, Nat.reduceAdd, Nat.reduceLeDiff, Nat.reduceEqDiff, Int.cast_ofNat_Int, Bool.true_eq_false, ite_not, sizeLine_eq, true_and, and_true, and_self, Int.fmod_eq_emod_of_nonneg, Int.fdiv_eq_ediv_of_nonneg, Bool.not_true, Bool.not_false, Bool.not_eq_true', decide_eq_false_iff_not, decide_true, decide_false])

/-! ### tools -/
theorem exists_map {α : Type} {f : α → D} {P : α → Prop} : ∀ {xs : List D}, (∀ d ∈ xs, ∃ a, d = f a ∧ P a) → ∃ as : List α, xs = as.map f ∧ ∀ a ∈ as, P a
  | [], _ => ⟨[], rfl, fun a h => by cases h⟩
  | x :: xs, h => by
    obtain ⟨a, rfl, ha⟩ := h x List.mem_cons_self
    obtain ⟨as, rfl, hs⟩ := exists_map (xs := xs) fun d hd => h d (List.mem_cons_of_mem _ hd)
    exact ⟨a :: as, rfl, fun b hb => by
      rcases List.mem_cons.mp hb with rfl | hb
      · exact ha
      · exact hs b hb⟩
theorem lc_of {α : Type} {G : DTG} {U : DTT} {T : DTE} {ws : List Nat} {ρ : List Ent} {M : Mu} {Q : List D → Mu → Prop} {g f : α → D} {as : List α} (hl : as.length ≤ 1000000) (h : ∀ a ∈ as, ∀ (K : D → Mu → Prop) (N : Mu → Prop), K (f a) M → G (g a) (wipeE ρ ws) fun ρ2 => U ρ2 M (fun b M2 => if b = true then T ρ2 M2 K (fun _ _ => False) else N M2) (fun _ _ => False))
    (hq : Q (as.map f) M) : dLcI G U T ws (as.map g) ρ M Q := by
  refine lc_all (fun i d => ∃ x, as[i]? = some x ∧ d = f x) (by rw [List.length_map]; exact hl) (fun i x hx K N hk => ?_) fun acc h1 h2 => ?_
  · rw [List.getElem?_map] at hx
    obtain ⟨a, ha, rfl⟩ := Option.map_eq_some_iff.mp hx
    exact h a (List.mem_of_getElem? ha) K N (hk _ ⟨a, ha, rfl⟩)
  · have e : acc = as.map f := by
      refine List.ext_getElem? fun i => ?_
      rw [List.length_map] at h1
      rw [List.getElem?_map]
      cases z : acc[i]? with
      | none =>
        have := List.getElem?_eq_none_iff.mp z
        rw [List.getElem?_eq_none (by omega)]; rfl
      | some d =>
        obtain ⟨x, e1, e2⟩ := h2 i d z
        rw [e1, e2]; rfl
    rw [e]; exact hq
theorem cut_map {α : Type} (f : α → D) (xs : List α) (lo hi : Option Int) : cutD (xs.map f) lo hi = ((xs.drop (HT.sIx xs.length 0 lo)).take (HT.sIx xs.length xs.length hi - HT.sIx xs.length 0 lo)).map f := by
  unfold cutD
  rw [List.length_map, List.map_take, List.map_drop]
theorem lc_sel {α : Type} {G : DTG} {U : DTT} {T : DTE} {ws : List Nat} {ρ : List Ent} {M : Mu} {Q : List D → Mu → Prop} {g f : α → D} (c : α → Bool) {as : List α} (hl : as.length ≤ 1000000) (h : ∀ a ∈ as, ∀ (K : D → Mu → Prop) (N : Mu → Prop), (c a = true → K (f a) M) → (c a = false → N M) → G (g a) (wipeE ρ ws) fun ρ2 => U ρ2 M (fun b M2 => if b = true then T ρ2 M2 K (fun _ _ => False) else N M2) (fun _ _ => False))
    (hq : Q ((as.filter c).map f) M) : dLcI G U T ws (as.map g) ρ M Q := by
  refine ⟨fun i acc M' => acc = ((as.take i).filter c).map f ∧ M' = M, ⟨by simp, rfl⟩, ?_, ?_⟩
  · rintro i x hx acc M' ⟨rfl, rfl⟩
    rw [List.getElem?_map] at hx
    obtain ⟨a, ha, rfl⟩ := Option.map_eq_some_iff.mp hx
    have hi := (List.getElem?_eq_some_iff.mp ha).1
    refine ⟨?_, h a (List.mem_of_getElem? ha) _ _ (fun e => ⟨?_, rfl⟩) fun e => ⟨?_, rfl⟩⟩
    · have := List.length_filter_le c (as.take i)
      simp only [List.length_map, List.length_take] at this ⊢
      rw [sizeLine_eq]; omega
    · rw [List.take_add_one, ha]; simp [List.filter_append, e]
    · rw [List.take_add_one, ha]; simp [List.filter_append, e]
  · rintro acc M' ⟨rfl, rfl⟩
    rw [List.length_map, List.take_length]; exact hq

end Z

namespace Z
open PySem L2
local macro_rules | `(tactic| simp! [$xs,*]) => `(tactic| simp only [$xs,*, ↓dSeq, ↓dAsg, ↓dOp, ↓dVar, ↓dVarR, ↓dC, ↓dCall, ↓dCons, ↓dNil, ↓dIf, ↓dRet, ↓dRetN, ↓dTup, ↓dTst, ↓dNeg, ↓dNext, ↓dCB, ↓dLstOf, ↓dLst, ↓dCat, ↓dSlL, ↓dSlS, ↓dONone, ↓dOSome, ↓dList1, ↓dChain, ↓dChain3, ↓dAndT, ↓dOrT, ↓dNotT, ↓dAndV, ↓dOrV, ↓dNotV, ↓dIfE, ↓dTru, ↓dOwn, ↓dAsgG, ↓dPar, ↓dDrop, ↓dAugI, ↓dBreak, ↓dCont, ↓dgName, ↓dgNil, ↓dgCons, ↓dgTup, ↓dFrz, ↓frzE, ↓dItA, ↓dItB, ↓dRng1, ↓dRng2, ↓dEnum, ↓dFor, ↓dSM, ↓dSM0, ↓dRepN, ↓dLc, ↓dYes, ↓wipeE, ↓dStore, ↓dLmut, ↓lmPre, ↓lmAt, ↓isLst, ↓kNx, ↓kSet, ↓lmAppend, ↓lmExtend, ↓lmPop, ↓lmPopAt, ↓lmClear, ↓lmInsert, ↓lmSet, ↓dAugL, ↓dAugS, ↓lmAugS, ↓dMake, ↓dMake0, ↓dMeth, ↓dFld, ↓dSetF, ↓dTry, ↓dTryM, ↓exM, ↓dRaise, ↓endsOf, ↓startE, ↓entOf, ↓ga, ↓pur, ↓dDnew, ↓dDput, ↓dDget, ↓dDsetd, ↓dLmX, ↓dFrzM, ↓dZip, ↓dZipM, ↓dListRev, ↓oListRev, ↓dOrG, ↓dLstM, ↓onDic, ↓onDicR, ↓onLst, ↓obD, ↓dVarP, ↓dItC, ↓onIns, ↓endsW, ↓dLidx, ↓isLD, ↓oIdx, ↓dTake, ↓dLendT, ↓dLendE, ↓lendE, ↓lend1, ↓dFzv, ↓fzv, ↓dStoreX, ↓dLidxD, ↓dGive, ↓dZip3, ↓dListD, ↓drf_int, ↓drf_str, ↓drf_bl, ↓drf_non, ↓drf_lst, ↓drf_tup, ↓drf_obj, ↓drf_dic, ↓drf_cls, ↓drf_exc, ↓drf_ty, ↓drf_ref, ↓drfO_dic, ↓drfO_lst, ↓drfO_ins, ↓drfO_non, ↓oLen_d, ↓oIn_d, ↓oNotIn_d, ↓oIn_dt, ↓oNotIn_dt, ↓kOkB_s, ↓kOkB_i, ↓oAdd_i, ↓oAdd_s, ↓oAdd_t, ↓oAdd_l, ↓oSub_i, ↓oMul_i, ↓oMulW_i, ↓oMulA_i, ↓oMulA_s, ↓oFdiv_i, ↓oMod_i, ↓oPow_i, ↓oLt_i, ↓oLtA_i, ↓oLe_i, ↓oGt_i, ↓oGe_i, ↓oEq_i, ↓oEq_s, ↓oEq_b, ↓oEq_nn, ↓oEq_ni, ↓oEq_in, ↓oEq_ns, ↓oEq_sn, ↓oNe_i, ↓oNe_s, ↓oNe_b, ↓oNe_nn, ↓oNe_ni, ↓oNe_in, ↓oNe_ns, ↓oNe_sn, ↓oIsN_, ↓oNotN_, ↓isNon_int, ↓isNon_str, ↓isNon_bl, ↓isNon_non, ↓isNon_lst, ↓isNon_tup, ↓isNon_obj, ↓isNon_exc, ↓isNon_dic, ↓oLen_s, ↓oLen_l, ↓oLen_t, ↓oAbs_, ↓oMax2_, ↓oMin2_, ↓oMinT_, ↓oMaxT_, ↓oInt1_i, ↓oInt1_b, ↓oInt1_s, ↓oStr1_, ↓oTuple1_l, ↓oTuple1_t, ↓oList1_l, ↓oList1_t, ↓oListD_d, ↓oCat_l, ↓truD_n, ↓truD_b, ↓truD_i, ↓truD_s, ↓truD_l, ↓truD_t, ↓onStr_s, ↓soStarts_, ↓soUpper_, ↓soLower_, ↓soIsupper_, ↓soFind_, ↓soStrip_, ↓soPart_, ↓soSplit_, ↓soJoin_l, ↓soJoin_t, ↓oSlL_l, ↓oSlS_l, ↓oSlS_t, ↓oSlS_s, ↓isi_int_int, ↓isi_int_str, ↓isi_int_bool, ↓isi_int_NoneType, ↓isi_int_list, ↓isi_int_tuple, ↓isi_bool_int, ↓isi_bool_str, ↓isi_bool_bool, ↓isi_bool_NoneType, ↓isi_bool_list, ↓isi_bool_tuple, ↓isi_tuple_int, ↓isi_tuple_str, ↓isi_tuple_bool, ↓isi_tuple_NoneType, ↓isi_tuple_list, ↓isi_tuple_tuple, ↓isi_str_int, ↓isi_str_str, ↓isi_str_bool, ↓isi_str_NoneType, ↓isi_str_list, ↓isi_str_tuple, ↓isi_list_int, ↓isi_list_str, ↓isi_list_bool, ↓isi_list_NoneType, ↓isi_list_list, ↓isi_list_tuple, ↓oIx_t0, ↓oIx_l0, ↓oIx_t1, ↓oIx_l1, ↓oIx_t2, ↓oIx_l2, ↓oIx_t3, ↓oIx_l3, ↓oIx_t4, ↓oIx_l4, ↓oIx_t5, ↓oIx_l5, ↓oIx_f0, ↓oIx_f1, ↓drf_fD, ↓oLen_f, ↓isi_tuple_f, ↓isi_int_f, ↓eq_fD, ↓ne_fD, ofS_inj, mem_ofS, mem_ofS0, putD_nil, putD_cons, updM_same, String.reduceEq, Nat.reduceLT, true_or, or_true, false_or, or_false, true_and, and_true, false_and, and_false, List.set_cons_zero, List.set_cons_succ, List.map_cons, List.map_nil, if_true, if_false, Bool.false_eq_true, decide_eq_true_eq, List.length_cons, List.length_nil, Int.reduceNe, Int.reduceLT, Int.reduceLE, Int.reduceEq, Int.reduceToNat, Int.reducePow, Int.reduceNeg, Int.reduceAdd, Int.reduceMul, Int.reduceSub, Nat.reduceAdd, Nat.reduceLeDiff, Nat.reduceEqDiff, Int.cast_ofNat_Int, Bool.true_eq_false, ite_not, sizeLine_eq, true_and, and_true, and_self, Int.fmod_eq_emod_of_nonneg, Int.fdiv_eq_ediv_of_nonneg, Bool.not_true, Bool.not_false, Bool.not_eq_true', decide_eq_false_iff_not, decide_true, decide_false])

/-! ### rings -/
abbrev Prs := List (Nat × Nat)
inductive Reach (ps : Prs) : Nat → Nat → Prop
  | one {a b : Nat} : (a, b) ∈ ps → Reach ps a b
  | more {a b c : Nat} : Reach ps a b → (b, c) ∈ ps → Reach ps a c
theorem Reach.fst {ps : Prs} {a b : Nat} (h : Reach ps a b) : ∃ x, (a, x) ∈ ps := by
  induction h with
  | one h => exact ⟨_, h⟩
  | more _ _ ih => exact ih
def closedP (ps : Prs) (hs : List Nat) : Prop := ∀ a b, (a, b) ∈ ps → a ∈ hs → b ∈ hs
def cnt8 (hs : List Nat) : Nat := ((List.range 8).filter fun x => decide (x ∈ hs)).length
theorem cnt8_le (hs : List Nat) : cnt8 hs ≤ 8 := by
  have := List.length_filter_le (fun x => decide (x ∈ hs)) (List.range 8)
  rw [List.length_range] at this
  exact this
theorem filter_lt {l : List Nat} {p q : Nat → Bool} (hpq : ∀ x, p x = true → q x = true) {x : Nat} (hx : x ∈ l) (h1 : p x = false) (h2 : q x = true) : (l.filter p).length < (l.filter q).length := by
  induction l with
  | nil => nomatch hx
  | cons y l ih =>
    have le : (l.filter p).length ≤ (l.filter q).length := by
      clear ih hx
      induction l with
      | nil => exact Nat.le_refl _
      | cons z l ih2 =>
        rw [List.filter_cons, List.filter_cons]
        cases hz : p z with
        | true => rw [hpq z hz]; simp; exact ih2
        | false => cases q z <;> simp <;> omega
    rw [List.filter_cons, List.filter_cons]
    rcases List.mem_cons.mp hx with rfl | hx
    · rw [h1, h2]; simp; omega
    · have := ih hx
      cases hy : p y with
      | true => rw [hpq y hy]; simp; exact this
      | false => cases q y <;> simp <;> omega
theorem cnt8_app {hs ms : List Nat} {x : Nat} (hx : x ∈ ms) (h8 : x < 8) (hn : x ∉ hs) : cnt8 hs < cnt8 (hs ++ ms) := by
  unfold cnt8
  exact filter_lt (fun y hy => by simp at hy ⊢; exact .inl hy) (List.mem_range.mpr h8) (decide_eq_false hn) (decide_eq_true (List.mem_append_right _ hx))
/-- the state of the walk from one -/
structure Her (ps : Prs) (f : Nat) (t : Nat) (hs : List Nat) : Prop where
  re : ∀ x ∈ hs, Reach ps f x
  di : ∀ x, (f, x) ∈ ps → x ∈ hs
  cl : closedP ps hs ∨ t + 1 ≤ cnt8 hs
  ln : hs.length ≤ 12 * (t + 1)
structure Mor (ps : Prs) (hs : List Nat) (i : Nat) (ms : List Nat) : Prop where
  ou : ∀ x ∈ ms, x ∉ hs ∧ ∃ a ∈ hs, (a, x) ∈ ps
  al : ∀ p ∈ ps.take i, p.1 ∈ hs → p.2 ∈ hs ∨ p.2 ∈ ms
  ln : ms.length ≤ i
theorem Her.step {ps : Prs} (h8 : ∀ p ∈ ps, p.1 < 8 ∧ p.2 < 8) (hl : ps.length ≤ 12) {f t : Nat} {hs ms : List Nat} (h : Her ps f t hs) (m : Mor ps hs ps.length ms) : Her ps f (t + 1) (hs ++ ms) := by
  refine ⟨fun x hx => ?_, fun x hx => List.mem_append_left _ (h.di x hx), ?_, ?_⟩
  · rcases List.mem_append.mp hx with z | z
    · exact h.re x z
    · obtain ⟨_, a, ha, hp⟩ := m.ou x z
      exact .more (h.re a ha) hp
  · rcases h.cl with hc | hc
    · have e : ms = [] := by
        cases ms with
        | nil => rfl
        | cons x ms =>
          obtain ⟨h1, a, ha, hp⟩ := m.ou x List.mem_cons_self
          exact absurd (hc a x hp ha) h1
      rw [e, List.append_nil]
      exact .inl hc
    · cases ms with
      | nil =>
        refine .inl ?_
        rw [List.append_nil]
        intro a b hp ha
        rcases m.al (a, b) (by rw [List.take_length]; exact hp) ha with z | z
        · exact z
        · nomatch z
      | cons x ms =>
        obtain ⟨h1, a, ha, hp⟩ := m.ou x List.mem_cons_self
        have := cnt8_app (ms := x :: ms) List.mem_cons_self (h8 _ hp).2 h1
        exact .inr (by omega)
  · rw [List.length_append]
    have := h.ln
    have := m.ln
    omega
theorem Her.done {ps : Prs} {f : Nat} {hs : List Nat} (h : Her ps f 8 hs) : f ∈ hs ↔ Reach ps f f := by
  have hc : closedP ps hs := by
    rcases h.cl with z | z
    · exact z
    · have := cnt8_le hs; omega
  refine ⟨h.re f, fun z => ?_⟩
  have all : ∀ x, Reach ps f x → x ∈ hs := fun x hx => by
    induction hx with
    | one hp => exact h.di _ hp
    | more _ hp ih => exact hc _ _ hp ih
  exact all f z

end Z

namespace Z
open PySem L2
local macro_rules | `(tactic| simp! [$xs,*]) => `(tactic| simp only [$xs,*, ↓dSeq, ↓dAsg, ↓dOp, ↓dVar, ↓dVarR, ↓dC, ↓dCall, ↓dCons, ↓dNil, ↓dIf, ↓dRet, ↓dRetN, ↓dTup, ↓dTst, ↓dNeg, ↓dNext, ↓dCB, ↓dLstOf, ↓dLst, ↓dCat, ↓dSlL, ↓dSlS, ↓dONone, ↓dOSome, ↓dList1, ↓dChain, ↓dChain3, ↓dAndT, ↓dOrT, ↓dNotT, ↓dAndV, ↓dOrV, ↓dNotV, ↓dIfE, ↓dTru, ↓dOwn, ↓dAsgG, ↓dPar, ↓dDrop, ↓dAugI, ↓dBreak, ↓dCont, ↓dgName, ↓dgNil, ↓dgCons, ↓dgTup, ↓dFrz, ↓frzE, ↓dItA, ↓dItB, ↓dRng1, ↓dRng2, ↓dEnum, ↓dFor, ↓dSM, ↓dSM0, ↓dRepN, ↓dLc, ↓dYes, ↓wipeE, ↓dStore, ↓dLmut, ↓lmPre, ↓lmAt, ↓isLst, ↓kNx, ↓kSet, ↓lmAppend, ↓lmExtend, ↓lmPop, ↓lmPopAt, ↓lmClear, ↓lmInsert, ↓lmSet, ↓dAugL, ↓dAugS, ↓lmAugS, ↓dMake, ↓dMake0, ↓dMeth, ↓dFld, ↓dSetF, ↓dTry, ↓dTryM, ↓exM, ↓dRaise, ↓endsOf, ↓startE, ↓entOf, ↓ga, ↓pur, ↓dDnew, ↓dDput, ↓dDget, ↓dDsetd, ↓dLmX, ↓dFrzM, ↓dZip, ↓dZipM, ↓dListRev, ↓oListRev, ↓dOrG, ↓dLstM, ↓onDic, ↓onDicR, ↓onLst, ↓obD, ↓dVarP, ↓dItC, ↓onIns, ↓endsW, ↓dLidx, ↓isLD, ↓oIdx, ↓dTake, ↓dLendT, ↓dLendE, ↓lendE, ↓lend1, ↓dFzv, ↓fzv, ↓dStoreX, ↓dLidxD, ↓dGive, ↓dZip3, ↓dListD, ↓drf_int, ↓drf_str, ↓drf_bl, ↓drf_non, ↓drf_lst, ↓drf_tup, ↓drf_obj, ↓drf_dic, ↓drf_cls, ↓drf_exc, ↓drf_ty, ↓drf_ref, ↓drfO_dic, ↓drfO_lst, ↓drfO_ins, ↓drfO_non, ↓oLen_d, ↓oIn_d, ↓oNotIn_d, ↓oIn_dt, ↓oNotIn_dt, ↓kOkB_s, ↓kOkB_i, ↓oAdd_i, ↓oAdd_s, ↓oAdd_t, ↓oAdd_l, ↓oSub_i, ↓oMul_i, ↓oMulW_i, ↓oMulA_i, ↓oMulA_s, ↓oFdiv_i, ↓oMod_i, ↓oPow_i, ↓oLt_i, ↓oLtA_i, ↓oLe_i, ↓oGt_i, ↓oGe_i, ↓oEq_i, ↓oEq_s, ↓oEq_b, ↓oEq_nn, ↓oEq_ni, ↓oEq_in, ↓oEq_ns, ↓oEq_sn, ↓oNe_i, ↓oNe_s, ↓oNe_b, ↓oNe_nn, ↓oNe_ni, ↓oNe_in, ↓oNe_ns, ↓oNe_sn, ↓oIsN_, ↓oNotN_, ↓isNon_int, ↓isNon_str, ↓isNon_bl, ↓isNon_non, ↓isNon_lst, ↓isNon_tup, ↓isNon_obj, ↓isNon_exc, ↓isNon_dic, ↓oLen_s, ↓oLen_l, ↓oLen_t, ↓oAbs_, ↓oMax2_, ↓oMin2_, ↓oMinT_, ↓oMaxT_, ↓oInt1_i, ↓oInt1_b, ↓oInt1_s, ↓oStr1_, ↓oTuple1_l, ↓oTuple1_t, ↓oList1_l, ↓oList1_t, ↓oListD_d, ↓oCat_l, ↓truD_n, ↓truD_b, ↓truD_i, ↓truD_s, ↓truD_l, ↓truD_t, ↓onStr_s, ↓soStarts_, ↓soUpper_, ↓soLower_, ↓soIsupper_, ↓soFind_, ↓soStrip_, ↓soPart_, ↓soSplit_, ↓soJoin_l, ↓soJoin_t, ↓oSlL_l, ↓oSlS_l, ↓oSlS_t, ↓oSlS_s, ↓isi_int_int, ↓isi_int_str, ↓isi_int_bool, ↓isi_int_NoneType, ↓isi_int_list, ↓isi_int_tuple, ↓isi_bool_int, ↓isi_bool_str, ↓isi_bool_bool, ↓isi_bool_NoneType, ↓isi_bool_list, ↓isi_bool_tuple, ↓isi_tuple_int, ↓isi_tuple_str, ↓isi_tuple_bool, ↓isi_tuple_NoneType, ↓isi_tuple_list, ↓isi_tuple_tuple, ↓isi_str_int, ↓isi_str_str, ↓isi_str_bool, ↓isi_str_NoneType, ↓isi_str_list, ↓isi_str_tuple, ↓isi_list_int, ↓isi_list_str, ↓isi_list_bool, ↓isi_list_NoneType, ↓isi_list_list, ↓isi_list_tuple, ↓oIx_t0, ↓oIx_l0, ↓oIx_t1, ↓oIx_l1, ↓oIx_t2, ↓oIx_l2, ↓oIx_t3, ↓oIx_l3, ↓oIx_t4, ↓oIx_l4, ↓oIx_t5, ↓oIx_l5, ↓oIx_f0, ↓oIx_f1, ↓drf_fD, ↓oLen_f, ↓isi_tuple_f, ↓isi_int_f, ↓eq_fD, ↓ne_fD, ofS_inj, mem_ofS, mem_ofS0, putD_nil, putD_cons, updM_same, String.reduceEq, Nat.reduceLT, true_or, or_true, false_or, or_false, true_and, and_true, false_and, and_false, List.set_cons_zero, List.set_cons_succ, List.map_cons, List.map_nil, if_true, if_false, Bool.false_eq_true, decide_eq_true_eq, List.length_cons, List.length_nil, Int.reduceNe, Int.reduceLT, Int.reduceLE, Int.reduceEq, Int.reduceToNat, Int.reducePow, Int.reduceNeg, Int.reduceAdd, Int.reduceMul, Int.reduceSub, Nat.reduceAdd, Nat.reduceLeDiff, Nat.reduceEqDiff, Int.cast_ofNat_Int, Bool.true_eq_false, ite_not, sizeLine_eq, true_and, and_true, and_self, Int.fmod_eq_emod_of_nonneg, Int.fdiv_eq_ediv_of_nonneg, Bool.not_true, Bool.not_false, Bool.not_eq_true', decide_eq_false_iff_not, decide_true, decide_false])

def t_l_weight_k09 (p_l_mix : SpM) (p_l_lowest : SpM) : DTS :=
 (dSeq (dAsg 3 (dCall p_l_mix (dCons (dVar 0) (dCons (dVar 1) dNil))))
 (dSeq (dAsg 4 (dOp oIx (dLstOf (dLst (dCons (dC (.int 1)) (dCons (dC (.int 2)) (dCons (dC (.int 1)) (dCons (dC (.int 3)) (dCons (dOp oMod (dVarR 0) (dOp oPow (dC (.int 10)) (dC (.int 12)))) (dCons (dVar 3) dNil)))))))) (dOp oMod (dVarR 3) (dC (.int 6)))))
 (dSeq (dAsg 5 (dOp oIx (dLstOf (dLst (dCons (dC (.int 1)) (dCons (dC (.int 1)) (dCons (dC (.int 2)) (dCons (dC (.int 4)) (dCons (dOp oAdd (dC (.int 1)) (dOp oMod (dOp oFdiv (dVarR 3) (dC (.int 7))) (dOp oPow (dC (.int 10)) (dC (.int 9))))) (dCons (dC (.int 3)) dNil)))))))) (dOp oMod (dOp oFdiv (dVarR 3) (dC (.int 6))) (dC (.int 6)))))
 (dSeq (dIf (dTst (dOp oEq (dVarR 2) (dC (.str "chance")))) (dAsg 4 (dOp oAdd (dVarR 4) (dCB oInt1 (dCons (dOp oEq (dVarR 4) (dC (.int 0))) dNil)))) (dIf (dTst (dOp oEq (dOp oMod (dOp oFdiv (dVarR 3) (dC (.int 36))) (dC (.int 4))) (dC (.int 0)))) (dAsg 4 (dNeg (dVarR 4))) dNext))
 (dRet (dCall p_l_lowest (dCons (dVar 4) (dCons (dVar 5) dNil))))))))





theorem alnum_lt {c : Nat} (h : alnum c = true) : c < 123 := by
  unfold alnum isSm isGr isFi at h
  simp only [Bool.or_eq_true, decide_eq_true_eq] at h
  omega
theorem okS_of {w : Str} (h1 : ∀ c ∈ cs w, c < 1000) (h2 : (cs w).length ≤ 100) : okS w := ⟨by
  unfold PyData.strOk
  rw [Array.all_eq_true_iff_forall_mem]
  intro c hc
  have := h1 c (by simpa [cs] using hc)
  exact decide_eq_true (by omega), h2⟩
theorem name_cs {w : Str} (h : nameB w = true) : (1 ≤ (cs w).length ∧ (cs w).length ≤ 12) ∧ ∀ c ∈ cs w, alnum c = true := by
  unfold nameB at h
  rw [Bool.and_eq_true, decide_eq_true_eq, List.all_eq_true] at h
  exact h
theorem okS_name {w : Str} (h : nameB w = true) : okS w := by
  obtain ⟨h1, h2⟩ := name_cs h
  exact okS_of (fun c hc => by have := alnum_lt (h2 c hc); omega) (by omega)
def sp_l_weight_k09 : SpD := fun ds Q _ => match ds with | [.int c, .int k, .str s] => kOk k ∧ ∀ p, fits 60 p → (s = "chance" → 0 < p.num) → Q (fD p) | _ => False
theorem r_l_weight_k09 (ds M Q E) (h : pur sp_l_weight_k09 ds M Q E) : t_l_weight_k09 (pur sp_l_mix) (pur sp_l_lowest) (endsOf Q E) (startE [false, false, false] 6 ds) M := by
  unfold pur sp_l_weight_k09 at h
  dsimp only at h
  split at h
  · rename_i c k s
    obtain ⟨hk, h⟩ := h
    have m0 := mix_lo c k
    have m1 := mix_hi c k
    have cp : ∀ n : Int, 0 ≤ n → n ≤ 100 → CPow 10 n := fun n h1 h2 => ⟨h1, by omega, by decide⟩
    have sm : ∀ i : Int, 0 ≤ i → i < 100000 → Sm i := fun i h1 h2 => sm_lit (by omega) (by omega)
    simp! [t_l_weight_k09, sp_l_mix, hk]
    generalize mix c k = m at *
    refine ⟨cp _ (by decide) (by decide), ?_⟩
    refine ix_all (P := fun d => ∃ i : Int, d = .int i ∧ 0 ≤ i ∧ i < 2 ^ 58) (by omega) (by simp; omega) ?_ ?_
    · intro d hd
      simp only [List.mem_cons, List.not_mem_nil, or_false] at hd
      rcases hd with rfl | rfl | rfl | rfl | rfl | rfl <;> exact ⟨_, rfl, by omega, by omega⟩
    · rintro d ⟨t, rfl, t0, t1⟩
      simp! [dSeq]
      refine ⟨sm _ (by decide) (by decide), cp _ (by decide) (by decide), sm _ (by decide) (by decide), ?_⟩
      refine ix_all (P := fun d => ∃ i : Int, d = .int i ∧ 0 < i ∧ i < 2 ^ 58) (by omega) (by simp; omega) ?_ ?_
      · intro d hd
        simp only [List.mem_cons, List.not_mem_nil, or_false] at hd
        rcases hd with rfl | rfl | rfl | rfl | rfl | rfl <;> exact ⟨_, rfl, by omega, by omega⟩
      · rintro d ⟨b, rfl, b0, b1⟩
        have fin : ∀ t : Int, t.natAbs < 2 ^ 60 → (s = "chance" → 0 < t) → 0 < b ∧ Sm b ∧ Q (fD (Rat.divInt t b)) M := fun t h1 h2 => ⟨b0, sm_lit (by omega) (by omega), h _ (divInt_fits (by omega) h1 (by omega)) fun z => divInt_pos (h2 z) b0⟩
        simp! [sp_l_lowest]
        split
        · exact fin _ (by split <;> omega) (fun _ => by split <;> omega)
        · rename_i hs
          refine ⟨sm _ (by decide) (by decide), ?_⟩
          split
          · exact fin _ (by omega) (fun z => absurd z hs)
          · exact fin _ (by omega) (fun z => absurd z hs)
  · exact h.elim

end Z

namespace Z
open PySem L2
local macro_rules | `(tactic| simp! [$xs,*]) => `(tactic| simp only [$xs,*, ↓dSeq, ↓dAsg, ↓dOp, ↓dVar, ↓dVarR, ↓dC, ↓dCall, ↓dCons, ↓dNil, ↓dIf, ↓dRet, ↓dRetN, ↓dTup, ↓dTst, ↓dNeg, ↓dNext, ↓dCB, ↓dLstOf, ↓dLst, ↓dCat, ↓dSlL, ↓dSlS, ↓dONone, ↓dOSome, ↓dList1, ↓dChain, ↓dChain3, ↓dAndT, ↓dOrT, ↓dNotT, ↓dAndV, ↓dOrV, ↓dNotV, ↓dIfE, ↓dTru, ↓dOwn, ↓dAsgG, ↓dPar, ↓dDrop, ↓dAugI, ↓dBreak, ↓dCont, ↓dgName, ↓dgNil, ↓dgCons, ↓dgTup, ↓dFrz, ↓frzE, ↓dItA, ↓dItB, ↓dRng1, ↓dRng2, ↓dEnum, ↓dFor, ↓dSM, ↓dSM0, ↓dRepN, ↓dLc, ↓dYes, ↓wipeE, ↓dStore, ↓dLmut, ↓lmPre, ↓lmAt, ↓isLst, ↓kNx, ↓kSet, ↓lmAppend, ↓lmExtend, ↓lmPop, ↓lmPopAt, ↓lmClear, ↓lmInsert, ↓lmSet, ↓dAugL, ↓dAugS, ↓lmAugS, ↓dMake, ↓dMake0, ↓dMeth, ↓dFld, ↓dSetF, ↓dTry, ↓dTryM, ↓exM, ↓dRaise, ↓endsOf, ↓startE, ↓entOf, ↓ga, ↓pur, ↓dDnew, ↓dDput, ↓dDget, ↓dDsetd, ↓dLmX, ↓dFrzM, ↓dZip, ↓dZipM, ↓dListRev, ↓oListRev, ↓dOrG, ↓dLstM, ↓onDic, ↓onDicR, ↓onLst, ↓obD, ↓dVarP, ↓dItC, ↓onIns, ↓endsW, ↓dLidx, ↓isLD, ↓oIdx, ↓dTake, ↓dLendT, ↓dLendE, ↓lendE, ↓lend1, ↓dFzv, ↓fzv, ↓dStoreX, ↓dLidxD, ↓dGive, ↓dZip3, ↓dListD, ↓drf_int, ↓drf_str, ↓drf_bl, ↓drf_non, ↓drf_lst, ↓drf_tup, ↓drf_obj, ↓drf_dic, ↓drf_cls, ↓drf_exc, ↓drf_ty, ↓drf_ref, ↓drfO_dic, ↓drfO_lst, ↓drfO_ins, ↓drfO_non, ↓oLen_d, ↓oIn_d, ↓oNotIn_d, ↓oIn_dt, ↓oNotIn_dt, ↓kOkB_s, ↓kOkB_i, ↓oAdd_i, ↓oAdd_s, ↓oAdd_t, ↓oAdd_l, ↓oSub_i, ↓oMul_i, ↓oMulW_i, ↓oMulA_i, ↓oMulA_s, ↓oFdiv_i, ↓oMod_i, ↓oPow_i, ↓oLt_i, ↓oLtA_i, ↓oLe_i, ↓oGt_i, ↓oGe_i, ↓oEq_i, ↓oEq_s, ↓oEq_b, ↓oEq_nn, ↓oEq_ni, ↓oEq_in, ↓oEq_ns, ↓oEq_sn, ↓oNe_i, ↓oNe_s, ↓oNe_b, ↓oNe_nn, ↓oNe_ni, ↓oNe_in, ↓oNe_ns, ↓oNe_sn, ↓oIsN_, ↓oNotN_, ↓isNon_int, ↓isNon_str, ↓isNon_bl, ↓isNon_non, ↓isNon_lst, ↓isNon_tup, ↓isNon_obj, ↓isNon_exc, ↓isNon_dic, ↓oLen_s, ↓oLen_l, ↓oLen_t, ↓oAbs_, ↓oMax2_, ↓oMin2_, ↓oMinT_, ↓oMaxT_, ↓oInt1_i, ↓oInt1_b, ↓oInt1_s, ↓oStr1_, ↓oTuple1_l, ↓oTuple1_t, ↓oList1_l, ↓oList1_t, ↓oListD_d, ↓oCat_l, ↓truD_n, ↓truD_b, ↓truD_i, ↓truD_s, ↓truD_l, ↓truD_t, ↓onStr_s, ↓soStarts_, ↓soUpper_, ↓soLower_, ↓soIsupper_, ↓soFind_, ↓soStrip_, ↓soPart_, ↓soSplit_, ↓soJoin_l, ↓soJoin_t, ↓oSlL_l, ↓oSlS_l, ↓oSlS_t, ↓oSlS_s, ↓isi_int_int, ↓isi_int_str, ↓isi_int_bool, ↓isi_int_NoneType, ↓isi_int_list, ↓isi_int_tuple, ↓isi_bool_int, ↓isi_bool_str, ↓isi_bool_bool, ↓isi_bool_NoneType, ↓isi_bool_list, ↓isi_bool_tuple, ↓isi_tuple_int, ↓isi_tuple_str, ↓isi_tuple_bool, ↓isi_tuple_NoneType, ↓isi_tuple_list, ↓isi_tuple_tuple, ↓isi_str_int, ↓isi_str_str, ↓isi_str_bool, ↓isi_str_NoneType, ↓isi_str_list, ↓isi_str_tuple, ↓isi_list_int, ↓isi_list_str, ↓isi_list_bool, ↓isi_list_NoneType, ↓isi_list_list, ↓isi_list_tuple, ↓oIx_t0, ↓oIx_l0, ↓oIx_t1, ↓oIx_l1, ↓oIx_t2, ↓oIx_l2, ↓oIx_t3, ↓oIx_l3, ↓oIx_t4, ↓oIx_l4, ↓oIx_t5, ↓oIx_l5, ↓oIx_f0, ↓oIx_f1, ↓drf_fD, ↓oLen_f, ↓isi_tuple_f, ↓isi_int_f, ↓eq_fD, ↓ne_fD, ofS_inj, mem_ofS, mem_ofS0, putD_nil, putD_cons, updM_same, String.reduceEq, Nat.reduceLT, true_or, or_true, false_or, or_false, true_and, and_true, false_and, and_false, List.set_cons_zero, List.set_cons_succ, List.map_cons, List.map_nil, if_true, if_false, Bool.false_eq_true, decide_eq_true_eq, List.length_cons, List.length_nil, Int.reduceNe, Int.reduceLT, Int.reduceLE, Int.reduceEq, Int.reduceToNat, Int.reducePow, Int.reduceNeg, Int.reduceAdd, Int.reduceMul, Int.reduceSub, Nat.reduceAdd, Nat.reduceLeDiff, Nat.reduceEqDiff, Int.cast_ofNat_Int, Bool.true_eq_false, ite_not, sizeLine_eq, true_and, and_true, and_self, Int.fmod_eq_emod_of_nonneg, Int.fdiv_eq_ediv_of_nonneg, Bool.not_true, Bool.not_false, Bool.not_eq_true', decide_eq_false_iff_not, decide_true, decide_false])
def t_l_wild_parts (p_l_mix : SpM) : DTS :=
 (dSeq (dAsg 6 (dCall p_l_mix (dCons (dOp oIx (dVarR 0) (dOp oMod (dC (.int 2)) (dCB oLen (dCons (dVarR 0) dNil)))) (dCons (dC (.int 2)) dNil))))
 (dSeq (dAsg 7 (dLstOf (dList1 (dCons (dVarR 2) dNil))))
 (dCut (dIf (dOrT (dTst (dOp oEq (dVarR 1) (dC (.int 4)))) (dAndT (dTst (dOp oEq (dVarR 1) (dC (.int 6)))) (dTst (dOp oEq (dOp oMod (dVarR 6) (dC (.int 9))) (dC (.int 0)))))) (dAsg 7 (dVar 3)) dNext)
 (dSeq (dOwn 8 (dLst dNil))
 (dSeq (dFor (dRng1 (dCons (dOp oIx (dTup (dCons (dC (.int 1)) (dCons (dC (.int 2)) (dCons (dC (.int 2)) (dCons (dC (.int 3)) (dCons (dC (.int 1)) (dCons (dC (.int 4)) dNil))))))) (dOp oMod (dOp oFdiv (dVarR 6) (dC (.int 9))) (dC (.int 6)))) dNil)) (dgName 9) (dSeq (dAsg 10 (dCall p_l_mix (dCons (dOp oIx (dVarR 0) (dOp oMod (dOp oAdd (dC (.int 2)) (dVarR 9)) (dCB oLen (dCons (dVarR 0) dNil)))) (dCons (dOp oAdd (dC (.int 3)) (dVarR 9)) dNil))))
 (dIf (dTst (dOp oLt (dOp oMod (dVarR 10) (dC (.int 5))) (dC (.int 3)))) (dLmut lmAppend 8 (dCons (dOp oIx (dVarR 7) (dOp oMod (dOp oFdiv (dVarR 10) (dC (.int 5))) (dCB oLen (dCons (dVarR 7) dNil)))) dNil) kNx) (dLmut lmAppend 8 (dCons (dOp oIx (dVarR 4) (dOp oMod (dOp oFdiv (dVarR 10) (dC (.int 5))) (dC (.int 3)))) dNil) kNx))))
 (dSeq (dAsg 11 (dAndV (dOp oEq (dCB oLen (dCons (dVarR 8) dNil)) (dC (.int 1))) (dOp oIn (dOp oIx (dVarR 8) (dC (.int 0))) (dVarR 3))))
 (dCut (dIf (dAndT (dTru (dVarR 11)) (dAndT (dTst (dOp oLt (dVarR 1) (dC (.int 5)))) (dTst (dOp oLe (dLidx (dVarR 3) (dCons (dOp oIx (dVarR 8) (dC (.int 0))) dNil)) (dLidx (dVarR 3) (dCons (dVarR 5) dNil)))))) (dOwn 8 (dLst (dCons (dOp oIx (dVarR 4) (dOp oMod (dVarR 6) (dC (.int 3)))) dNil))) dNext)
 (dFrz 8 (dRet (dVar 8))))))))))

def t_l_wild_rows_k11 (p_l_names : SpM) (p_l_at : SpM) (p_l_mix : SpM) (p_l_weight_k09 : SpM) (p_l_wild_parts : SpM) : DTS :=
 (dSeq (dAsg 3 (dCall p_l_names (dCons (dCall p_l_at (dCons (dVar 0) (dCons (dC (.int 1)) dNil))) (dCons (dC (.int 5)) (dCons (dC (.str "ABCDEFGHIJKLMNOPQRSTUVWXYZ")) dNil)))))
 (dSeq (dAsg 4 (dCall p_l_names (dCons (dCall p_l_at (dCons (dVar 0) (dCons (dC (.int 2)) dNil))) (dCons (dC (.int 3)) (dCons (dC (.str "abcdefghijklmnopqrstuvwxyz0123456789")) dNil)))))
 (dSeq (dAsg 5 (dCall p_l_names (dCons (dCall p_l_at (dCons (dVar 0) (dCons (dC (.int 3)) dNil))) (dCons (dC (.int 12)) (dCons (dC (.str "abcdefghijklmnopqrstuvwxyz0123456789")) dNil)))))
 (dSeq (dAsg 6 (dLstOf (dLc (dRng1 (dCons (dC (.int 11)) dNil)) (dgName 9) dYes (dSlS (dVarR 0) (dOSome (dOp oAdd (dC (.int 4)) (dOp oMulA (dC (.int 5)) (dVarR 9)))) (dOSome (dOp oAdd (dC (.int 9)) (dOp oMulA (dC (.int 5)) (dVarR 9))))) [9])))
 (dSeq (dAsg 6 (dLstOf (dLc (dItA (dVar 6)) (dgName 17) (dTst (dOp oNe (dVarR 17) (dLstOf (dLst dNil)))) (dVar 17) [17])))
 (dSeq (dAsg 7 (dLstOf (dLc (dRng1 (dCons (dCB oLen (dCons (dVarR 6) dNil)) dNil)) (dgName 9) dYes (dOp oIx (dVarR 3) (dOp oIx (dTup (dCons (dC (.int 0)) (dCons (dOp oMod (dCall p_l_mix (dCons (dOp oIx (dOp oIx (dVarR 6) (dVarR 9)) (dC (.int 0))) (dCons (dC (.int 1)) dNil))) (dC (.int 4))) dNil))) (dCB oInt1 (dCons (dOp oGt (dVarR 9) (dC (.int 0))) dNil)))) [9])))
 (dSeq (dOwn 8 (dLst dNil))
 (dSeq (dFor (dRng1 (dCons (dCB oLen (dCons (dVarR 6) dNil)) dNil)) (dgName 9) (dSeq (dAsg 10 (dCall p_l_mix (dCons (dOp oIx (dOp oIx (dVarR 6) (dVarR 9)) (dNeg (dC (.int 1)))) (dCons (dC (.int 4)) dNil))))
 (dSeq (dAsg 11 (dOp oIx (dVarR 5) (dVarR 9)))
 (dCut (dIf (dOrT (dTst (dOp oEq (dVarR 1) (dC (.int 2)))) (dAndT (dTst (dOp oEq (dVarR 1) (dC (.int 6)))) (dTst (dOp oEq (dOp oMod (dVarR 10) (dC (.int 11))) (dC (.int 0)))))) (dAsg 11 (dOp oIx (dVarR 5) (dOp oMod (dOp oFdiv (dVarR 10) (dC (.int 11))) (dC (.int 9))))) dNext)
 (dSeq (dAsg 12 (dCall p_l_weight_k09 (dCons (dOp oIx (dOp oIx (dVarR 6) (dVarR 9)) (dOp oMod (dC (.int 1)) (dCB oLen (dCons (dOp oIx (dVarR 6) (dVarR 9)) dNil)))) (dCons (dC (.int 5)) (dCons (dVar 2) dNil)))))
 (dCut (dIf (dAndT (dOrT (dTst (dOp oEq (dVarR 1) (dC (.int 1)))) (dTst (dOp oEq (dVarR 1) (dC (.int 6))))) (dTst (dOp oEq (dOp oMod (dVarR 10) (dC (.int 7))) (dC (.int 0))))) (dAsg 12 (dOp oIx (dTup (dCons (dTup (dCons (dC (.int 0)) (dCons (dC (.int 1)) dNil))) (dCons (dTup (dCons (dNeg (dC (.int 1))) (dCons (dC (.int 3)) dNil))) (dCons (dTup (dCons (dOp oSub (dNeg (dOp oMod (dVarR 10) (dOp oPow (dC (.int 10)) (dC (.int 6))))) (dC (.int 1))) (dCons (dC (.int 1)) dNil))) dNil)))) (dOp oMod (dOp oFdiv (dVarR 10) (dC (.int 7))) (dC (.int 3))))) dNext)
 (dSeq (dAsg 13 (dSlS (dVarR 5) dONone (dOSome (dCB oLen (dCons (dVarR 6) dNil)))))
 (dCut (dIf (dOrT (dTst (dOp oEq (dVarR 1) (dC (.int 3)))) (dAndT (dTst (dOp oEq (dVarR 1) (dC (.int 6)))) (dTst (dOp oEq (dOp oMod (dVarR 10) (dC (.int 5))) (dC (.int 0)))))) (dAsg 13 (dVar 5)) dNext)
 (dSeq (dAsg 14 (dC .non))
 (dCut (dIf (dTst (dOp oEq (dOp oMod (dOp oFdiv (dVarR 10) (dC (.int 77))) (dC (.int 3))) (dC (.int 0)))) (dAsg 14 (dLstOf (dLc (dRng1 (dCons (dOp oAdd (dC (.int 1)) (dOp oMod (dOp oFdiv (dVarR 10) (dC (.int 462))) (dC (.int 4)))) dNil)) (dgName 18) dYes (dOp oIx (dVarR 13) (dOp oMod (dOp oFdiv (dVarR 10) (dOp oAdd (dC (.int 231)) (dOp oMulA (dC (.int 3)) (dVarR 18)))) (dCB oLen (dCons (dVarR 13) dNil)))) [18]))) dNext)
 (dSeq (dAsg 15 (dOp oIx (dTup (dCons (dC (.str "")) (dCons (dOp oIx (dVarR 4) (dOp oMod (dOp oFdiv (dVarR 10) (dC (.int 924))) (dC (.int 3)))) dNil))) (dOp oMod (dOp oFdiv (dVarR 10) (dC (.int 2772))) (dC (.int 2)))))
 (dSeq (dAsg 16 (dCall p_l_wild_parts (dCons (dOp oIx (dVarR 6) (dVarR 9)) (dCons (dVar 1) (dCons (dVar 7) (dCons (dVar 3) (dCons (dVar 4) (dCons (dOp oIx (dVarR 7) (dVarR 9)) dNil))))))))
 (dLmut lmAppend 8 (dCons (dTup (dCons (dVar 11) (dCons (dOp oIx (dVarR 7) (dVarR 9)) (dCons (dVar 16) (dCons (dVar 12) (dCons (dVar 15) (dCons (dVar 14) dNil))))))) dNil) kNx)))))))))))))
 (dFrz 8 (dRet (dTup (dCons (dVar 3) (dCons (dVar 8) dNil)))))))))))))

/-! ### wild rows -/
theorem ix_get {α : Type} {f : α → D} {xs : List α} {i : Int} (h0 : 0 ≤ i) (h1 : i < xs.length) : ∃ x ∈ xs, ∀ Q : D → Prop, oIx (.lst (xs.map f)) (.int i) Q = Q (f x) := by
  have hl : i.toNat < xs.length := by omega
  refine ⟨xs[i.toNat], List.getElem_mem _, fun Q => ?_⟩
  rw [(ix_lt h0 (by rw [List.length_map]; exact h1)).1]
  rw [List.getD_eq_getElem?_getD, List.getElem?_map, List.getElem?_eq_getElem hl]; rfl
theorem ix_nat {α : Type} {f : α → D} {ws : List α} {k : Nat} {w : α} {Q : D → Prop} (h : ws[k]? = some w) : oIx (.lst (ws.map f)) (.int (k : Int)) Q = Q (f w) := by
  have hl := (List.getElem?_eq_some_iff.mp h).1
  rw [(ix_lt (by omega) (by rw [List.length_map]; omega)).1]
  rw [List.getD_eq_getElem?_getD, Int.toNat_natCast, List.getElem?_map, h]; rfl
theorem ixT_all {xs : List D} {i : Int} {P : D → Prop} {Q : D → Prop} (h0 : 0 ≤ i) (h1 : i < xs.length) (hP : ∀ d ∈ xs, P d) (q : ∀ d, P d → Q d) : oIx (.tup xs) (.int i) Q := by
  rw [(ix_lt h0 h1).2]
  refine q _ (hP _ ?_)
  rw [List.getD_eq_getElem?_getD, List.getElem?_eq_getElem (by omega)]
  exact List.getElem_mem _
structure PartsOk (mode : Int) (hs ks ws : List Str) (head : Str) (pp : List Str) : Prop where
  l1 : 1 ≤ pp.length
  l4 : pp.length ≤ 4
  al : ∀ p ∈ pp, p ∈ ks ∨ p ∈ ws
  he : mode ≠ 4 → mode ≠ 6 → ∀ p ∈ pp, p ∈ hs ∨ p ∈ ws
  up : mode < 5 → ∀ p, pp = [p] → p ∈ ks → ∃ a b : Nat, ks[a]? = some head ∧ ks[b]? = some p ∧ a < b
def sp_l_wild_parts : SpD := fun ds Q _ => match ds with
  | [.lst cs, .int mode, .lst hd, .lst kd, .lst wd, .str head] => ∃ (ns : List Int) (hs ks ws : List Str), cs = ns.map .int ∧ hd = hs.map .str ∧ kd = ks.map .str ∧ wd = ws.map .str ∧ 1 ≤ ns.length ∧ ns.length ≤ 5 ∧ 1 ≤ hs.length ∧ hs.length ≤ 11 ∧ (∀ h ∈ hs, h ∈ ks) ∧ ks.length = 5 ∧ ks.Nodup ∧ ws.length = 3 ∧ (∀ w ∈ ws, w ∉ ks) ∧ head ∈ ks ∧ ∀ pp, PartsOk mode hs ks ws head pp → Q (.lst (pp.map .str))
  | _ => False
theorem inD_str (x : Str) : ∀ hs : List Str, inD (.str x) (hs.map .str) = decide (x ∈ hs) := fun hs => by
  induction hs with
  | nil => rfl
  | cons y hs ih =>
    unfold inD at ih ⊢
    rw [List.map_cons, List.any_cons, ih]
    have e : eqF (.str y) (.str x) = decide (y = x) := rfl
    rw [e, Bool.eq_iff_iff]
    simp only [Bool.or_eq_true, decide_eq_true_eq, List.mem_cons]
    constructor
    · rintro (z | z)
      · exact .inl z.symm
      · exact .inr z
    · rintro (z | z)
      · exact .inl z.symm
      · exact .inr z
theorem flat_strs (hs : List Str) : (hs.map D.str).all flatD = true := by
  rw [List.all_eq_true]
  intro d hd
  obtain ⟨x, _, rfl⟩ := List.mem_map.mp hd
  rfl
theorem in_strs {x : Str} {hs : List Str} {Q : D → Prop} : oIn (.str x) (.lst (hs.map .str)) Q = Q (.bl (decide (x ∈ hs))) := by
  have e := inD_str x hs
  exact propext ⟨fun ⟨_, _, h⟩ => by rw [e] at h; exact h, fun h => ⟨rfl, flat_strs hs, by rw [e]; exact h⟩⟩
theorem idx_first {ks : List Str} {k : Str} {j : Nat} (hn : ks.Nodup) (h : ks[j]? = some k) : ∀ i : Nat, i < j → ks[i]? ≠ some k := fun i hi e => by
  obtain ⟨l1, e1⟩ := List.getElem?_eq_some_iff.mp h
  obtain ⟨l2, e2⟩ := List.getElem?_eq_some_iff.mp e
  have := (List.getElem_inj hn).mp (e1.trans e2.symm)
  omega
theorem r_l_wild_parts (ds M Q E) (h : pur sp_l_wild_parts ds M Q E) : t_l_wild_parts (pur sp_l_mix) (endsOf Q E) (startE [false, false, false, false, false, false] 12 ds) M := by
  unfold pur sp_l_wild_parts at h
  dsimp only at h
  split at h
  · rename_i cs mode hd kd wd head
    obtain ⟨ns, hs, ks, ws, rfl, rfl, rfl, rfl, n1, n5, h1, h11, hhk, k5, kn, w3, wk, hek, h⟩ := h
    have sl : ∀ i : Int, 0 ≤ i → i < 100000 → Sm i := fun i h1 h2 => sm_lit (by omega) (by omega)
    have mod_n : ∀ i : Int, 0 ≤ i → 0 ≤ i.fmod ns.length ∧ i.fmod ns.length < ns.length := fun i hi => by
      rw [Int.fmod_eq_emod_of_nonneg _ (by omega)]
      exact ⟨Int.emod_nonneg _ (by omega), Int.emod_lt_of_pos _ (by omega)⟩
    obtain ⟨c0, _, i0⟩ := ix_get (f := D.int) (mod_n 2 (by omega)).1 (mod_n 2 (by omega)).2
    have k2 : kOk 2 := ⟨by decide, by decide⟩
    simp! [t_l_wild_parts, List.length_map, i0, sp_l_mix, k2, sl]
    have m0 := mix_lo c0 2
    generalize mix c0 2 = m at *
    refine ⟨by omega, fun ρ M1 => (∃ so : List Str, 1 ≤ so.length ∧ so.length ≤ 11 ∧ (∀ p ∈ so, p ∈ ks) ∧ (mode ≠ 4 → mode ≠ 6 → so = hs) ∧ ρ = [.dat (.lst (ns.map .int)), .dat (.int mode), .dat (.lst (hs.map .str)), .dat (.lst (ks.map .str)), .dat (.lst (ws.map .str)), .dat (.str head), .dat (.int m), .dat (.lst (so.map .str)), .un, .un, .un, .un]) ∧ M1 = M, ?_, ?_⟩
    · simp! [sl]
      by_cases z1 : mode = 4
      · rw [if_pos z1]
        exact ⟨ks, by omega, by omega, fun p hp => hp, fun z => absurd z1 z, rfl⟩
      · rw [if_neg z1]
        by_cases z2 : mode = 6
        · rw [if_pos z2]
          split
          · exact ⟨ks, by omega, by omega, fun p hp => hp, fun _ z => absurd z2 z, rfl⟩
          · exact ⟨hs, h1, h11, hhk, fun _ _ => rfl, rfl⟩
        · rw [if_neg z2]
          exact ⟨hs, h1, h11, hhk, fun _ _ => rfl, rfl⟩
    · rintro ρ M1 ⟨⟨so, so1, so2, sok, soh, rfl⟩, rfl⟩
      simp! [sl]
      refine ixT_all (P := fun d => ∃ j : Int, d = .int j ∧ 1 ≤ j ∧ j ≤ 4) (by omega) (by simp; omega) (fun d hd => ?_) ?_
      · simp only [List.mem_cons, List.not_mem_nil, or_false] at hd
        rcases hd with rfl | rfl | rfl | rfl | rfl | rfl <;> exact ⟨_, rfl, by omega, by omega⟩
      · rintro d ⟨j, rfl, j1, j4⟩
        simp! [dSeq]
        refine ⟨by omega, by omega, fun i ρ M2 => (∃ r9 r10 pp, ρ = [.dat (.lst (ns.map .int)), .dat (.int mode), .dat (.lst (hs.map .str)), .dat (.lst (ks.map .str)), .dat (.lst (ws.map .str)), .dat (.str head), .dat (.int m), .dat (.lst (so.map .str)), .own (pp.map .str), r9, r10, .un] ∧ pp.length = i ∧ ∀ p ∈ pp, p ∈ so ∨ p ∈ ws) ∧ M2 = M1, ⟨⟨_, _, [], rfl, rfl, fun p hp => (nomatch hp)⟩, rfl⟩, ?_, ?_⟩
        · rintro i d hd ρ M2 ⟨⟨r9, r10, pp, rfl, pl, pa⟩, rfl⟩
          obtain ⟨hi, rfl⟩ := rng_at hd
          have hi4 : i < 4 := by omega
          obtain ⟨c1, _, i1⟩ := ix_get (f := D.int) (mod_n (2 + (0 + (i : Int))) (by omega)).1 (mod_n (2 + (0 + (i : Int))) (by omega)).2
          have k3 : kOk (3 + (0 + (i : Int))) := ⟨by omega, by omega⟩
          simp! [List.length_map, i1, sp_l_mix, k3, sl]
          have q0 := mix_lo c1 (3 + (0 + (i : Int)))
          generalize mix c1 (3 + (0 + (i : Int))) = n at *
          have so_n : 0 ≤ (n / 5).fmod so.length ∧ (n / 5).fmod so.length < so.length := by
            rw [Int.fmod_eq_emod_of_nonneg _ (by omega)]
            exact ⟨Int.emod_nonneg _ (by omega), Int.emod_lt_of_pos _ (by omega)⟩
          obtain ⟨p1, hp1, i2⟩ := ix_get (f := D.str) so_n.1 so_n.2
          obtain ⟨p2, hp2, i3⟩ := ix_get (f := D.str) (xs := ws) (i := n / 5 % 3) (by omega) (by omega)
          simp only [i2, i3]
          have add : ∀ q, (q ∈ so ∨ q ∈ ws) → ∃ (r9 r10 : Ent) (pp_1 : List Str), [Ent.dat (.lst (ns.map .int)), .dat (.int mode), .dat (.lst (hs.map .str)), .dat (.lst (ks.map .str)), .dat (.lst (ws.map .str)), .dat (.str head), .dat (.int m), .dat (.lst (so.map .str)), .own (pp.map .str ++ [.str q]), .dat (.int (0 + (i : Int))), .dat (.int n), .un] = [Ent.dat (.lst (ns.map .int)), .dat (.int mode), .dat (.lst (hs.map .str)), .dat (.lst (ks.map .str)), .dat (.lst (ws.map .str)), .dat (.str head), .dat (.int m), .dat (.lst (so.map .str)), .own (pp_1.map .str), r9, r10, .un] ∧ pp_1.length = i + 1 ∧ ∀ p ∈ pp_1, p ∈ so ∨ p ∈ ws := fun q hq => ⟨_, _, pp ++ [q], by rw [List.map_append]; rfl, by simp [pl], fun p hp => by
            rcases List.mem_append.mp hp with z | z
            · exact pa p z
            · rw [List.mem_singleton.mp z]; exact hq⟩
          refine ⟨by omega, ?_⟩
          split
          · exact ⟨by omega, by omega, add p1 (.inl hp1)⟩
          · exact ⟨by omega, add p2 (.inr hp2)⟩
        · rintro ρ M2 ⟨⟨r9, r10, pp, rfl, pl, pa⟩, rfl⟩
          rw [rng_len] at pl
          have base : ∀ (_ : mode < 5 → ∀ p, pp = [p] → p ∈ ks → ∃ a b : Nat, ks[a]? = some head ∧ ks[b]? = some p ∧ a < b), PartsOk mode hs ks ws head pp := fun hup => ⟨by omega, by omega, fun p hp => by
            rcases pa p hp with z | z
            · exact .inl (sok p z)
            · exact .inr z, fun z1 z2 => by rw [← soh z1 z2]; exact pa, hup⟩
          obtain ⟨v, hv, i3⟩ := ix_get (f := D.str) (xs := ws) (i := m % 3) (by omega) (by omega)
          obtain ⟨a, ha⟩ := List.mem_iff_getElem?.mp hek
          by_cases z : pp.length = 1
          · obtain ⟨p, rfl⟩ : ∃ p, pp = [p] := by
              match pp, z with
              | [p], _ => exact ⟨p, rfl⟩
            simp! [in_strs, List.length_map]
            refine ⟨fun ρ M3 => (∃ r9 r10 r11 pp', PartsOk mode hs ks ws head pp' ∧ ρ = [.dat (.lst (ns.map .int)), .dat (.int mode), .dat (.lst (hs.map .str)), .dat (.lst (ks.map .str)), .dat (.lst (ws.map .str)), .dat (.str head), .dat (.int m), .dat (.lst (so.map .str)), .own (pp'.map .str), r9, r10, r11]) ∧ M3 = M2, ?_, ?_⟩
            · by_cases zk : p ∈ ks
              · obtain ⟨b, hb⟩ := List.mem_iff_getElem?.mp zk
                simp! [zk, sl, i3]
                by_cases z5 : mode < 5
                · rw [if_pos z5]
                  refine ⟨ks, b, rfl, hb, idx_first kn hb, ks, a, rfl, ha, idx_first kn ha, ?_⟩
                  by_cases zz : (b : Int) ≤ (a : Int)
                  · rw [if_pos zz]
                    refine ⟨_, _, _, [v], ⟨by simp, by simp, fun q hq => ?_, fun _ _ q hq => ?_, fun _ q hq hk => ?_⟩, rfl⟩
                    · rw [List.mem_singleton.mp hq]; exact .inr hv
                    · rw [List.mem_singleton.mp hq]; exact .inr hv
                    · injection hq with hq
                      exact absurd (hq ▸ hk) (wk v hv)
                  · rw [if_neg zz]
                    refine ⟨_, _, _, [p], base fun _ q hq hk => ?_, rfl⟩
                    injection hq with hq
                    exact ⟨a, b, ha, by rw [← hq]; exact hb, by omega⟩
                · rw [if_neg z5]
                  exact ⟨_, _, _, [p], base fun y => absurd y z5, rfl⟩
              · simp! [zk]
                exact ⟨_, _, _, [p], base fun _ q hq hk => by injection hq with hq; exact absurd (hq ▸ hk) zk, rfl⟩
            · rintro ρ M3 ⟨⟨r9, r10, r11, pp', ok, rfl⟩, rfl⟩
              simp! [dSeq]
              exact h pp' ok
          · have hz : ¬ ((pp.length : Int) = 1) := by omega
            simp! [in_strs, List.length_map, hz]
            refine ⟨fun ρ M3 => (∃ r9 r10 r11, ρ = [.dat (.lst (ns.map .int)), .dat (.int mode), .dat (.lst (hs.map .str)), .dat (.lst (ks.map .str)), .dat (.lst (ws.map .str)), .dat (.str head), .dat (.int m), .dat (.lst (so.map .str)), .own (pp.map .str), r9, r10, r11]) ∧ M3 = M2, ?_, ?_⟩
            · simp! [dSeq]
              exact ⟨_, _, _, rfl⟩
            · rintro ρ M3 ⟨⟨r9, r10, r11, rfl⟩, rfl⟩
              simp! [dSeq]
              exact h pp (base fun _ p hp => by rw [hp] at z; exact absurd rfl z)
  · exact h.elim
theorem ix_any {α : Type} {f : α → D} {xs : List α} {i : Int} (h0 : -(xs.length : Int) ≤ i) (h1 : i < xs.length) : ∃ x ∈ xs, ∀ Q : D → Prop, oIx (.lst (xs.map f)) (.int i) Q = Q (f x) := by
  by_cases hi : 0 ≤ i
  · exact ix_get hi h1
  · have hj : (i + xs.length).toNat < xs.length := by omega
    refine ⟨xs[(i + xs.length).toNat], List.getElem_mem _, fun Q => ?_⟩
    have e : atI (xs.map f) i = some (f (xs[(i + xs.length).toNat])) := by
      unfold atI ixN
      rw [List.length_map, if_neg hi, if_pos (by omega)]
      show (xs.map f)[(i + xs.length).toNat]? = _
      rw [List.getElem?_map, List.getElem?_eq_getElem hj]; rfl
    exact propext ⟨fun ⟨d, e', q⟩ => by rw [e] at e'; cases e'; exact q, fun q => ⟨_, e, q⟩⟩
theorem ne_ll {n : Nat} {xs ys : List D} {Q : D → Prop} (h1 : pl n (.lst xs) = true) (h2 : pl n (.lst ys) = true) (hn : n ≤ 200) (b : Bool) (hb : b = true ↔ xs = ys) : oNe (.lst xs) (.lst ys) Q = Q (.bl (!b)) := by
  have e1 : PyData.eqv (D.lst xs).py (D.lst ys).py = b := by
    rw [Bool.eq_iff_iff, eqv_iff n _ _ h1 h2, hb, D.lst.injEq]
  have s1 := pl_sh h1 hn
  have s2 := pl_sh h2 hn
  exact propext ⟨fun ⟨_, _, q⟩ => by rw [e1] at q; exact q, fun q => ⟨s1, s2, by rw [e1]; exact q⟩⟩
theorem pl_ints (ms : List Int) : pl 1 (.lst (ms.map .int)) = true := by
  show (ms.map D.int).all (pl 0) = true
  rw [List.all_eq_true]
  intro d hd
  obtain ⟨p, _, rfl⟩ := List.mem_map.mp hd
  rfl
def intsL (ms : List Int) : D := .lst (ms.map .int)
theorem ne_intsL {ms : List Int} {Q : D → Prop} : oNe (intsL ms) (.lst []) Q = Q (.bl (!ms.isEmpty)) := by
  refine ne_ll (pl_ints ms) rfl (by decide) _ ?_
  cases ms <;> simp
theorem name_kind {w : Str} (h : nameOf "ABCDEFGHIJKLMNOPQRSTUVWXYZ" w) : kindB w = true ∧ okS w := by
  obtain ⟨h1, c, r, h2, h3⟩ := h
  refine ⟨?_, okS_name h1⟩
  unfold kindB
  rw [h1, h2]
  show (true && isGr c) = true
  rw [Bool.true_and]
  have all : ∀ c ∈ cs (Str.ofString "ABCDEFGHIJKLMNOPQRSTUVWXYZ"), isGr c = true := by decide +kernel
  exact all c h3
theorem name_word {w : Str} (h : nameOf "abcdefghijklmnopqrstuvwxyz0123456789" w) : wordB w = true ∧ okS w := by
  obtain ⟨h1, c, r, h2, h3⟩ := h
  refine ⟨?_, okS_name h1⟩
  unfold wordB
  rw [h1, h2]
  show (true && !isGr c) = true
  rw [Bool.true_and]
  have all : ∀ c ∈ cs (Str.ofString "abcdefghijklmnopqrstuvwxyz0123456789"), isGr c = false := by decide +kernel
  rw [all c h3]; rfl
theorem kind_name {w : Str} (h : kindB w = true) : nameB w = true := by unfold kindB at h; rw [Bool.and_eq_true] at h; exact h.1
theorem word_name {w : Str} (h : wordB w = true) : nameB w = true := by unfold wordB at h; rw [Bool.and_eq_true] at h; exact h.1
theorem word_kind {w : Str} (h : wordB w = true) : kindB w = false := by
  unfold wordB at h
  unfold kindB
  rw [Bool.and_eq_true] at h
  rw [h.1]
  have := h.2
  split at this
  · rename_i c r e
    simpa using this
  · cases this
theorem drf_il {M : Mu} {ms : List Int} : drf M (intsL ms) = intsL ms := rfl
theorem len_il {ms : List Int} {Q : D → Prop} : oLen [intsL ms] Q = Q (.int ms.length) := by show Q (.int ((ms.map D.int).length : Nat)) = _; rw [List.length_map]
def undL : Option (List Str) → D
  | none => .non
  | some us => .lst (us.map .str)
theorem undOf_L (un : Option (List Str)) : undOf (undL un) un := by cases un with | none => exact rfl | some us => exact .inl rfl
def roD (r : Ru) : D := .tup [.str r.title, .str r.head, .lst (r.parts.map .str), fD r.weight, .str r.tag, undL r.under]
structure RowOk (mode : Int) (sc : Str) (hs ks ws so : List Str) (r : Ru) : Prop where
  ok : RuOk r
  gd : ruGood r = true
  ft : fits 60 r.weight
  wt : mode ≠ 1 → mode ≠ 6 → sc = "chance" → 0 < r.weight.num
  un : mode ≠ 3 → mode ≠ 6 → ∀ us, r.under = some us → ∀ u ∈ us, u ∈ so
  pa : PartsOk mode hs ks ws r.head r.parts
  ul : ∀ us, r.under = some us → us.length ≤ 4
/-- rows as drawn -/
structure Wild (mode : Int) (sc : Str) (ks : List Str) (rs : List Ru) : Prop where
  kl : ks.length = 5
  kn : ks.Nodup
  kk : ∀ k ∈ ks, kindB k = true ∧ okS k
  rl : rs.length ≤ 11
  ru : ∀ r ∈ rs, RuOk r ∧ ruGood r = true ∧ fits 60 r.weight ∧ r.parts.length ≤ 4
  wt : mode ≠ 1 → mode ≠ 6 → sc = "chance" → ∀ r ∈ rs, 0 < r.weight.num
  hd : ∀ r ∈ rs, r.head ∈ ks.take 4
  h0 : ∀ r, rs[0]? = some r → ks[0]? = some r.head
  ti : mode ≠ 2 → mode ≠ 6 → (titlesOf rs).Nodup
  un : mode ≠ 2 → mode ≠ 3 → mode ≠ 6 → ∀ r ∈ rs, ∀ us, r.under = some us → ∀ u ∈ us, u ∈ titlesOf rs
  pa : ∀ r ∈ rs, ∀ p ∈ r.parts, kindB p = true → p ∈ ks
  pk : mode ≠ 4 → mode ≠ 6 → ∀ r ∈ rs, ∀ p ∈ r.parts, kindB p = true → p ∈ headsOf rs
  up : mode < 5 → ∀ r ∈ rs, ∀ p, r.parts = [p] → kindB p = true → ∃ a b : Nat, ks[a]? = some r.head ∧ ks[b]? = some p ∧ a < b
  ul : ∀ r ∈ rs, ∀ us, r.under = some us → us.length ≤ 4
theorem Wild.of {mode : Int} {sc : Str} {ks ws ts hs : List Str} {rs : List Ru} (kl : ks.length = 5) (kn : ks.Nodup) (kk : ∀ k ∈ ks, kindB k = true ∧ okS k) (wk : ∀ w ∈ ws, wordB w = true ∧ okS w) (tn : ts.Nodup) (hl : hs.length ≤ 11) (h4 : ∀ h ∈ hs, h ∈ ks.take 4) (h0 : ∀ h, hs[0]? = some h → ks[0]? = some h)
    (rl : rs.length = hs.length) (ti : mode ≠ 2 → mode ≠ 6 → titlesOf rs = ts.take hs.length) (he : headsOf rs = hs) (ro : ∀ r ∈ rs, RowOk mode sc hs ks ws (ts.take hs.length) r) : Wild mode sc ks rs := by
  have nw : ∀ p ∈ ws, kindB p = true → False := fun p hp hk => by rw [word_kind (wk p hp).1] at hk; cases hk
  refine ⟨kl, kn, kk, by omega, fun r hr => ⟨(ro r hr).ok, (ro r hr).gd, (ro r hr).ft, (ro r hr).pa.l4⟩, fun a b c r hr => (ro r hr).wt a b c, fun r hr => ?_, fun r hr => ?_, fun a b => ?_, fun a b c r hr us z u hu => ?_, fun r hr p hp hk => ?_, fun a b r hr p hp hk => ?_, fun a r hr p hp hk => ?_, fun r hr => (ro r hr).ul⟩
  · exact h4 _ (by rw [← he]; exact List.mem_map.mpr ⟨r, hr, rfl⟩)
  · refine h0 _ ?_
    rw [← he]
    unfold headsOf
    rw [List.getElem?_map, hr]; rfl
  · rw [ti a b]
    exact tn.sublist (List.take_sublist _ _)
  · rw [ti a c]
    exact (ro r hr).un b c us z u hu
  · rcases (ro r hr).pa.al p hp with z | z
    · exact z
    · exact (nw p z hk).elim
  · rw [he]
    rcases (ro r hr).pa.he a b p hp with z | z
    · exact z
    · exact (nw p z hk).elim
  · refine (ro r hr).pa.up a p hp ?_
    rcases (ro r hr).pa.al p (by rw [hp]; simp) with z | z
    · exact z
    · exact (nw p z hk).elim
def sp_l_wild_rows_k11 : SpD := fun ds Q _ => match ds with
  | [.lst xs, .int mode, .str sc] => ∃ ns : List Int, xs = ns.map .int ∧ ns.length ≤ 63 ∧ ∀ ks rs, Wild mode sc ks rs → Q (.tup [.lst (ks.map .str), .lst (rs.map roD)])
  | _ => False
def wr (ns : List Int) (mode : Int) (sc : Str) (ks ws ts : List Str) (pss : List (List Int)) (hs : List Str) (rs : List Ru) (r9 r10 r11 r12 r13 r14 r15 r16 r17 r18 : Ent) : List Ent :=
  [.dat (.lst (ns.map .int)), .dat (.int mode), .dat (.str sc), .dat (.lst (ks.map .str)), .dat (.lst (ws.map .str)), .dat (.lst (ts.map .str)), .dat (.lst (pss.map intsL)), .dat (.lst (hs.map .str)), .own (rs.map roD), r9, r10, r11, r12, r13, r14, r15, r16, r17, r18]
theorem r_l_wild_rows_k11 (ds M Q E) (h : pur sp_l_wild_rows_k11 ds M Q E) : t_l_wild_rows_k11 (pur sp_l_names) (pur sp_l_at) (pur sp_l_mix) (pur sp_l_weight_k09) (pur sp_l_wild_parts) (endsOf Q E) (startE [false, false, false] 19 ds) M := by
  unfold pur sp_l_wild_rows_k11 at h
  dsimp only at h
  split at h
  · rename_i xs mode sc
    obtain ⟨ns, rfl, hl, h⟩ := h
    have sl : ∀ i : Int, 0 ≤ i → i < 100000 → Sm i := fun i h1 h2 => sm_lit (by omega) (by omega)
    simp! [t_l_wild_rows_k11, e_l_at, sp_l_names]
    refine ⟨by decide +kernel, by decide +kernel, by decide +kernel, by decide +kernel, by decide +kernel, fun ks kl kn kk => ?_⟩
    refine ⟨by decide +kernel, by decide +kernel, by decide +kernel, by decide +kernel, by decide +kernel, fun ws wl wn wk => ?_⟩
    refine ⟨by decide +kernel, by decide +kernel, by decide +kernel, by decide +kernel, by decide +kernel, fun ts tl tn tk => ?_⟩
    have kk := fun k hk => name_kind (kk k hk)
    have wk := fun w hw => name_word (wk w hw)
    have tk := fun w hw => name_word (tk w hw)
    refine lc_all (fun _ d => ∃ ms : List Int, d = intsL ms ∧ ms.length ≤ 5) (by rw [rng_len]; decide) (fun i x hx K N hK => ?_) fun acc hal hac => ?_
    · obtain ⟨hi, rfl⟩ := rng_at hx
      simp! [cut_map, sl]
      refine ⟨sl _ (by omega) (by omega), sl _ (by omega) (by omega), hK _ ⟨_, rfl, ?_⟩⟩
      have e1 : HT.sIx ns.length 0 (some (4 + 5 * (0 + (i : Int)))) = min (4 + 5 * i) ns.length := by
        rw [show 4 + 5 * (0 + (i : Int)) = ((4 + 5 * i : Nat) : Int) by omega]; exact HT.sIx_nat _ _ _
      have e2 : HT.sIx ns.length ns.length (some (9 + 5 * (0 + (i : Int)))) = min (9 + 5 * i) ns.length := by
        rw [show 9 + 5 * (0 + (i : Int)) = ((9 + 5 * i : Nat) : Int) by omega]; exact HT.sIx_nat _ _ _
      rw [List.length_take, e1, e2]
      omega
    · obtain ⟨mss, rfl, hm⟩ := exists_map (f := intsL) (P := fun ms => ms.length ≤ 5) (xs := acc) fun d hd => by
        obtain ⟨i, hi⟩ := List.mem_iff_getElem?.mp hd
        exact hac i d hi
      rw [rng_len, List.length_map] at hal
      simp! [dSeq]
      refine lc_sel (g := intsL) (f := intsL) (fun ms => !ms.isEmpty) (by omega) (fun ms hms K N hK hN => ?_) ?_
      · simp! [ne_intsL, show ∀ M ms, drf M (intsL ms) = intsL ms from fun _ _ => rfl]
        cases z : ms.isEmpty with
        | true => exact hN (by rw [z]; rfl)
        | false => exact hK (by rw [z]; rfl)
      · generalize epp : mss.filter (fun ms => !ms.isEmpty) = pss
        have pl : pss.length ≤ 11 := by
          rw [← epp]
          have := List.length_filter_le (fun ms : List Int => !ms.isEmpty) mss
          omega
        have p5 : ∀ ms ∈ pss, 1 ≤ ms.length ∧ ms.length ≤ 5 := fun ms hms => by
          rw [← epp] at hms
          obtain ⟨z1, z2⟩ := List.mem_filter.mp hms
          refine ⟨?_, hm ms z1⟩
          cases ms with
          | nil => cases z2
          | cons _ _ => simp
        have pat : ∀ i, i < pss.length → ∃ ms ∈ pss, ∀ Q : D → Prop, oIx (.lst (pss.map intsL)) (.int (0 + (i : Int))) Q = Q (intsL ms) := fun i hi => by
          rw [Int.zero_add]
          exact ix_get (by omega) (by omega)
        clear epp hm hal hac mss
        simp! [List.length_map]
        refine ⟨by omega, by omega, ?_⟩
        have k1 : kOk 1 := ⟨by decide, by decide⟩
        have kat : ∀ i : Nat, i < 5 → ∃ k, ks[i]? = some k := fun i hi => ⟨ks[i]'(by omega), List.getElem?_eq_getElem _⟩
        refine lc_all (xs := rngD 0 pss.length) (fun i d => ∃ w, d = .str w ∧ w ∈ ks.take 4 ∧ (i = 0 → ks[0]? = some w)) (by rw [rng_len]; omega) (fun i x hx K N hK => ?_) fun acc hal hac => ?_
        · obtain ⟨hi, rfl⟩ := rng_at hx
          obtain ⟨ms, hms, ei⟩ := pat i hi
          obtain ⟨c0, _, ec⟩ := ix_get (f := D.int) (xs := ms) (i := 0) (by omega) (by have := (p5 ms hms).1; omega)
          have ec' : ∀ Q : D → Prop, oIx (intsL ms) (.int 0) Q = Q (.int c0) := ec
          obtain ⟨k0, hk0⟩ := kat 0 (by omega)
          have q0 := mix_lo c0 1
          obtain ⟨j, hj⟩ := Int.eq_ofNat_of_zero_le (Int.emod_nonneg (mix c0 1) (show (4 : Int) ≠ 0 by decide))
          have hj4 : j < 4 := by have := Int.emod_lt_of_pos (mix c0 1) (show (0 : Int) < 4 by decide); omega
          obtain ⟨kj, hkj⟩ := kat j (by omega)
          have m4 : ∀ (a : Nat) k, a < 4 → ks[a]? = some k → k ∈ ks.take 4 := fun a k ha hk => List.mem_iff_getElem?.mpr ⟨a, by rw [List.getElem?_take, if_pos ha]; exact hk⟩
          have e0 : ∀ Q : D → Prop, oIx (.lst (ks.map .str)) (.int 0) Q = Q (.str k0) := fun Q => ix_nat (k := 0) hk0
          have ej : ∀ Q : D → Prop, oIx (.lst (ks.map .str)) (.int (j : Int)) Q = Q (.str kj) := fun Q => ix_nat hkj
          simp! [ei, drf_il, ec', sp_l_mix, k1, hj]
          by_cases z : i = 0
          · rw [if_neg (by omega)]
            simp! [e0]
            exact hK _ ⟨k0, rfl, m4 0 k0 (by omega) hk0, fun _ => hk0⟩
          · rw [if_pos (by omega)]
            simp! [ej]
            exact hK _ ⟨kj, rfl, m4 j kj hj4 hkj, fun y => absurd y z⟩
        · obtain ⟨hs, rfl, hh⟩ := exists_map (f := D.str) (P := fun w => w ∈ ks.take 4) (xs := acc) fun d hd => by
            obtain ⟨i, hi⟩ := List.mem_iff_getElem?.mp hd
            obtain ⟨w, z1, z2, _⟩ := hac i d hi
            exact ⟨w, z1, z2⟩
          have h0 : ∀ w, hs[0]? = some w → ks[0]? = some w := fun w hw => by
            obtain ⟨w', z1, _, z3⟩ := hac 0 (.str w) (by rw [List.getElem?_map, hw]; rfl)
            injection z1 with z1
            rw [z1]; exact z3 rfl
          rw [rng_len, List.length_map] at hal
          have hhk : ∀ w ∈ hs, w ∈ ks := fun w hw => List.mem_of_mem_take (hh w hw)
          have nwk : ∀ w ∈ ws, w ∉ ks := fun w hw hk => by have := word_kind (wk w hw).1; rw [(kk w hk).1] at this; cases this
          clear hac
          simp! [List.length_map]
          refine ⟨by omega, by omega, fun i ρ M' => (∃ rs r9 r10 r11 r12 r13 r14 r15 r16 r17 r18, ρ = wr ns mode sc ks ws ts pss hs rs r9 r10 r11 r12 r13 r14 r15 r16 r17 r18 ∧ rs.length = i ∧ (mode ≠ 2 → mode ≠ 6 → titlesOf rs = ts.take i) ∧ headsOf rs = hs.take i ∧ ∀ r ∈ rs, RowOk mode sc hs ks ws (ts.take hs.length) r) ∧ M' = M, ⟨⟨[], _, _, _, _, _, _, _, _, _, _, rfl, rfl, fun _ _ => rfl, rfl, fun r hr => (nomatch hr)⟩, rfl⟩, ?_, ?_⟩
          · rintro i d hd ρ M' ⟨⟨rs, r9, r10, r11, r12, r13, r14, r15, r16, r17, r18, rfl, rl, rt, rh, ro⟩, rfl⟩
            obtain ⟨hi, rfl⟩ := rng_at hd
            obtain ⟨ms, hms, ei⟩ := pat i hi
            obtain ⟨m1, m5⟩ := p5 ms hms
            obtain ⟨c0, _, ec⟩ := ix_any (f := D.int) (xs := ms) (i := -1) (by omega) (by omega)
            have ec' : ∀ Q : D → Prop, oIx (intsL ms) (.int (-1)) Q = Q (.int c0) := ec
            have k4 : kOk 4 := ⟨by decide, by decide⟩
            obtain ⟨t0, ht0⟩ : ∃ t, ts[i]? = some t := ⟨ts[i]'(by omega), List.getElem?_eq_getElem _⟩
            have et : ∀ Q : D → Prop, oIx (.lst (ts.map .str)) (.int (0 + (i : Int))) Q = Q (.str t0) := fun Q => by rw [Int.zero_add]; exact ix_nat ht0
            simp! [wr, ei, drf_il, ec', sp_l_mix, k4, et]
            have n0 := mix_lo c0 4
            generalize mix c0 4 = n at *
            refine ⟨fun ρ M1 => (∃ t, t ∈ ts ∧ (mode ≠ 2 → mode ≠ 6 → t = t0) ∧ ρ = wr ns mode sc ks ws ts pss hs rs (.dat (.int (0 + (i : Int)))) (.dat (.int n)) (.dat (.str t)) r12 r13 r14 r15 r16 r17 r18) ∧ M1 = M', ?_, ?_⟩
            · obtain ⟨t1, ht1, e1⟩ := ix_get (f := D.str) (xs := ts) (i := n / 11 % 9) (by omega) (by omega)
              simp! [sl, e1]
              by_cases z1 : mode = 2
              · rw [if_pos z1]
                exact ⟨t1, ht1, fun y => absurd z1 y, rfl⟩
              · rw [if_neg z1]
                by_cases z2 : mode = 6
                · rw [if_pos z2]
                  split
                  · exact ⟨t1, ht1, fun _ y => absurd z2 y, rfl⟩
                  · exact ⟨t0, List.mem_of_getElem? ht0, fun _ _ => rfl, rfl⟩
                · rw [if_neg z2]
                  exact ⟨t0, List.mem_of_getElem? ht0, fun _ _ => rfl, rfl⟩
            · rintro ρ M1 ⟨⟨t, htt, ht, rfl⟩, rfl⟩
              have f1 : 0 ≤ (1 : Int).fmod ms.length ∧ (1 : Int).fmod ms.length < ms.length := by
                rw [Int.fmod_eq_emod_of_nonneg _ (by omega)]
                exact ⟨Int.emod_nonneg _ (by omega), Int.emod_lt_of_pos _ (by omega)⟩
              obtain ⟨c1, _, e1⟩ := ix_get (f := D.int) (xs := ms) f1.1 f1.2
              have e1' : ∀ Q : D → Prop, oIx (intsL ms) (.int ((1 : Int).fmod ms.length)) Q = Q (.int c1) := e1
              have k5' : kOk 5 := ⟨by decide, by decide⟩
              have c6 : CPow 10 6 := ⟨by decide, by decide, by decide⟩
              simp! [wr, ei, drf_il, len_il, e1', sp_l_weight_k09, k5']
              refine ⟨by omega, fun p hp hpc => ?_⟩
              refine ⟨fun ρ M2 => (∃ p, fits 60 p ∧ (mode ≠ 1 → mode ≠ 6 → sc = "chance" → 0 < p.num) ∧ ρ = wr ns mode sc ks ws ts pss hs rs (.dat (.int (0 + (i : Int)))) (.dat (.int n)) (.dat (.str t)) (.dat (fD p)) r13 r14 r15 r16 r17 r18) ∧ M2 = M1, ?_, ?_⟩
              · have _ := hp
                have bad : (mode = 1 ∨ mode = 6) → ∀ d, d ∈ [D.tup [.int 0, .int 1], D.tup [.int (-1), .int 3], D.tup [.int (-(n % 1000000) - 1), .int 1]] → ∃ p, fits 60 p ∧ (mode ≠ 1 → mode ≠ 6 → sc = "chance" → 0 < p.num) ∧ d = fD p := fun hm d hd => by
                  have no : ∀ p : Rat, mode ≠ 1 → mode ≠ 6 → sc = "chance" → 0 < p.num := fun p a b => by rcases hm with y | y <;> contradiction
                  simp only [List.mem_cons, List.not_mem_nil, or_false] at hd
                  rcases hd with rfl | rfl | rfl
                  · exact ⟨0, ⟨by decide, by decide⟩, no _, rfl⟩
                  · exact ⟨Rat.divInt (-1) 3, ⟨by decide, by decide⟩, no _, by unfold fD; rw [show (Rat.divInt (-1) 3).num = -1 from by decide, show (Rat.divInt (-1) 3).den = 3 from by decide]; rfl⟩
                  · refine ⟨((-(n % 1000000) - 1 : Int) : Rat), ⟨?_, by show 1 < _; decide⟩, no _, rfl⟩
                    show (-(n % 1000000) - 1 : Int).natAbs < _
                    omega
                have ch : (mode = 1 ∨ mode = 6) → oIx (.tup [D.tup [.int 0, .int 1], D.tup [.int (-1), .int 3], D.tup [.int (-(n % 1000000) - 1), .int 1]]) (.int (n / 7 % 3)) fun d => ∃ p, fits 60 p ∧ (mode ≠ 1 → mode ≠ 6 → sc = "chance" → 0 < p.num) ∧ wr ns mode sc ks ws ts pss hs rs (.dat (.int (0 + (i : Int)))) (.dat (.int n)) (.dat (.str t)) (.dat d) r13 r14 r15 r16 r17 r18 = wr ns mode sc ks ws ts pss hs rs (.dat (.int (0 + (i : Int)))) (.dat (.int n)) (.dat (.str t)) (.dat (fD p)) r13 r14 r15 r16 r17 r18 := fun hm => by
                  refine ixT_all (P := fun d => ∃ p, fits 60 p ∧ (mode ≠ 1 → mode ≠ 6 → sc = "chance" → 0 < p.num) ∧ d = fD p) (by omega) (by simp; omega) (bad hm) ?_
                  rintro d ⟨p, g1, g2, rfl⟩
                  exact ⟨p, g1, g2, rfl⟩
                simp! [sl, c6]
                by_cases z1 : mode = 1
                · rw [if_pos z1]
                  split
                  · exact ch (.inl z1)
                  · exact ⟨p, hp, fun _ _ => hpc, rfl⟩
                · rw [if_neg z1]
                  by_cases z2 : mode = 6
                  · rw [if_pos z2]
                    split
                    · exact ch (.inr z2)
                    · exact ⟨p, hp, fun _ _ => hpc, rfl⟩
                  · rw [if_neg z2]
                    exact ⟨p, hp, fun _ _ => hpc, rfl⟩
              · rintro ρ M2 ⟨⟨p, hp, hpc, rfl⟩, rfl⟩
                have e13 : cutD (ts.map D.str) none (some (pss.length : Int)) = (ts.take hs.length).map .str := by
                  rw [cut_map, HT.sIx_none, List.drop_zero, HT.sIx_nat, Nat.sub_zero, hal, Nat.min_eq_left (by omega)]
                simp! [wr, List.length_map, e13]
                have hs1 : 1 ≤ hs.length := by omega
                refine ⟨fun ρ M3 => (∃ so : List Str, 1 ≤ so.length ∧ so.length ≤ 12 ∧ (∀ u ∈ so, u ∈ ts) ∧ (mode ≠ 3 → mode ≠ 6 → so = ts.take hs.length) ∧ ρ = wr ns mode sc ks ws ts pss hs rs (.dat (.int (0 + (i : Int)))) (.dat (.int n)) (.dat (.str t)) (.dat (fD p)) (.dat (.lst (so.map .str))) r14 r15 r16 r17 r18) ∧ M3 = M2, ?_, ?_⟩
                · have k1 : ∃ so : List Str, 1 ≤ so.length ∧ so.length ≤ 12 ∧ (∀ u ∈ so, u ∈ ts) ∧ (mode ≠ 3 → mode ≠ 6 → so = ts.take hs.length) ∧ wr ns mode sc ks ws ts pss hs rs (.dat (.int (0 + (i : Int)))) (.dat (.int n)) (.dat (.str t)) (.dat (fD p)) (.dat (.lst ((ts.take hs.length).map .str))) r14 r15 r16 r17 r18 = wr ns mode sc ks ws ts pss hs rs (.dat (.int (0 + (i : Int)))) (.dat (.int n)) (.dat (.str t)) (.dat (fD p)) (.dat (.lst (so.map .str))) r14 r15 r16 r17 r18 :=
                    ⟨ts.take hs.length, by rw [List.length_take]; omega, by rw [List.length_take]; omega, fun u hu => List.mem_of_mem_take hu, fun _ _ => rfl, rfl⟩
                  have k2 : (mode = 3 ∨ mode = 6) → ∃ so : List Str, 1 ≤ so.length ∧ so.length ≤ 12 ∧ (∀ u ∈ so, u ∈ ts) ∧ (mode ≠ 3 → mode ≠ 6 → so = ts.take hs.length) ∧ wr ns mode sc ks ws ts pss hs rs (.dat (.int (0 + (i : Int)))) (.dat (.int n)) (.dat (.str t)) (.dat (fD p)) (.dat (.lst (ts.map .str))) r14 r15 r16 r17 r18 = wr ns mode sc ks ws ts pss hs rs (.dat (.int (0 + (i : Int)))) (.dat (.int n)) (.dat (.str t)) (.dat (fD p)) (.dat (.lst (so.map .str))) r14 r15 r16 r17 r18 :=
                    fun hm => ⟨ts, by omega, by omega, fun u hu => hu, fun a b => by rcases hm with y | y <;> contradiction, rfl⟩
                  simp! [sl]
                  by_cases z1 : mode = 3
                  · rw [if_pos z1]; exact k2 (.inl z1)
                  · rw [if_neg z1]
                    by_cases z2 : mode = 6
                    · rw [if_pos z2]
                      split
                      · exact k2 (.inr z2)
                      · exact k1
                    · rw [if_neg z2]; exact k1
                · rintro ρ M3 ⟨⟨so, so1, so2, sot, soe, rfl⟩, rfl⟩
                  simp! [wr]
                  refine ⟨fun ρ M4 => (∃ un : Option (List Str), (∀ us, un = some us → us ≠ [] ∧ us.length ≤ 4 ∧ ∀ u ∈ us, u ∈ so) ∧ ρ = wr ns mode sc ks ws ts pss hs rs (.dat (.int (0 + (i : Int)))) (.dat (.int n)) (.dat (.str t)) (.dat (fD p)) (.dat (.lst (so.map .str))) (.dat (undL un)) r15 r16 r17 r18) ∧ M4 = M3, ?_, ?_⟩
                  · simp! [sl]
                    split
                    · refine ⟨by omega, by omega, ?_⟩
                      refine lc_all (xs := rngD 0 (1 + n / 462 % 4).toNat) (fun _ d => ∃ u, d = .str u ∧ u ∈ so) (by rw [rng_len]; omega) (fun q x hx K N hK => ?_) fun acc hal' hac' => ?_
                      · obtain ⟨hq, rfl⟩ := rng_at hx
                        have so_n : 0 ≤ (n.fdiv (231 + 3 * (0 + (q : Int)))).fmod so.length ∧ (n.fdiv (231 + 3 * (0 + (q : Int)))).fmod so.length < so.length := by
                          rw [Int.fmod_eq_emod_of_nonneg _ (by omega)]
                          exact ⟨Int.emod_nonneg _ (by omega), Int.emod_lt_of_pos _ (by omega)⟩
                        obtain ⟨u, hu, eu⟩ := ix_get (f := D.str) so_n.1 so_n.2
                        simp! [sl, List.length_map, eu]
                        exact ⟨sl _ (by omega) (by omega), by omega, sl _ (by omega) (by omega), by omega, hK _ ⟨u, rfl, hu⟩⟩
                      · obtain ⟨us, rfl, hus⟩ := exists_map (f := D.str) (P := fun u => u ∈ so) (xs := acc) fun d hd => by
                          obtain ⟨q, hq⟩ := List.mem_iff_getElem?.mp hd
                          exact hac' q d hq
                        rw [rng_len, List.length_map] at hal'
                        refine ⟨⟨some us, fun v hv => ?_, rfl⟩, rfl⟩
                        injection hv with hv
                        subst hv
                        refine ⟨fun z => ?_, by omega, hus⟩
                        rw [z] at hal'
                        simp at hal'
                        omega
                    · exact ⟨none, fun us z => (nomatch z), rfl⟩
                  · rintro ρ M4 ⟨⟨un, hun, rfl⟩, rfl⟩
                    obtain ⟨g, hg, eg⟩ := ix_get (f := D.str) (xs := ws) (i := n / 924 % 3) (by omega) (by omega)
                    obtain ⟨w, hw⟩ : ∃ w, hs[i]? = some w := ⟨hs[i]'(by omega), List.getElem?_eq_getElem _⟩
                    have ew : ∀ Q : D → Prop, oIx (.lst (hs.map .str)) (.int (0 + (i : Int))) Q = Q (.str w) := fun Q => by rw [Int.zero_add]; exact ix_nat hw
                    have hww := List.mem_of_getElem? hw
                    simp! [wr, sl, eg]
                    refine ixT_all (P := fun d => ∃ g, d = .str g ∧ tagB g = true ∧ okS g) (by omega) (by simp; omega) (fun d hd => ?_) ?_
                    · simp only [List.mem_cons, List.not_mem_nil, or_false] at hd
                      rcases hd with rfl | rfl
                      · exact ⟨_, rfl, by decide, okS_of (by decide) (by decide)⟩
                      · exact ⟨_, rfl, by unfold tagB; rw [(wk g hg).1, Bool.or_true], (wk g hg).2⟩
                    · rintro d ⟨g', rfl, tg, og⟩
                      rw [ei, ew]
                      refine ⟨ms, hs, ks, ws, rfl, rfl, rfl, rfl, m1, m5, hs1, by omega, hhk, kl, kn, wl, nwk, hhk w hww, fun pp ok => ?_⟩
                      dsimp only
                      rw [ew]
                      have okpp : ∀ q ∈ pp, nameB q = true ∧ okS q := fun q hq => by
                        rcases ok.al q hq with z | z
                        · exact ⟨kind_name (kk q z).1, (kk q z).2⟩
                        · exact ⟨word_name (wk q z).1, (wk q z).2⟩
                      have okr : RuOk ⟨t, w, pp, p, g', un⟩ := ⟨(tk t htt).2, (kk w (hhk w hww)).2, fun q hq => (okpp q hq).2, by have := ok.l4; show pp.length ≤ 1000; omega, og, fun us z => by
                        obtain ⟨_, z2, z3⟩ := hun us z
                        exact ⟨by omega, fun u hu => (tk u (sot u (z3 u hu))).2⟩⟩
                      have gd : ruGood ⟨t, w, pp, p, g', un⟩ = true := by
                        show (wordB t && (kindB w && (partsB pp && (tagB g' && underB un)))) = true
                        have g1 : partsB pp = true := by
                          unfold partsB
                          rw [decide_eq_true ⟨ok.l1, ok.l4⟩, Bool.true_and, List.all_eq_true]
                          exact fun q hq => (okpp q hq).1
                        have g2 : underB un = true := by
                          cases un with
                          | none => rfl
                          | some us =>
                            obtain ⟨z1, _, z3⟩ := hun us rfl
                            show (decide (us ≠ []) && us.all wordB) = true
                            rw [decide_eq_true z1, Bool.true_and, List.all_eq_true]
                            exact fun u hu => (tk u (sot u (z3 u hu))).1
                        rw [(tk t htt).1, (kk w (hhk w hww)).1, g1, tg, g2]; rfl
                      refine ⟨by rw [List.length_map]; omega, rs ++ [⟨t, w, pp, p, g', un⟩], _, _, _, _, _, _, _, _, _, _, by rw [List.map_append]; rfl, by rw [List.length_append, List.length_singleton, rl], fun a b => ?_, ?_, fun r hr => ?_⟩
                      · unfold titlesOf at rt ⊢
                        rw [List.map_append, rt a b, List.take_add_one, ht0, ← ht a b]; rfl
                      · unfold headsOf at rh ⊢
                        rw [List.map_append, rh, List.take_add_one, hw]; rfl
                      · rcases List.mem_append.mp hr with z | z
                        · exact ro r z
                        · rw [List.mem_singleton.mp z]
                          refine ⟨okr, gd, hp, hpc, fun a b us z' u hu => ?_, ok, fun us z' => (hun us z').2.1⟩
                          rw [← soe a b]
                          exact (hun us z').2.2 u hu
          · rintro ρ M' ⟨⟨rs, r9, r10, r11, r12, r13, r14, r15, r16, r17, r18, rfl, rl, rt, rh, ro⟩, rfl⟩
            rw [rng_len, Int.toNat_natCast, ← hal] at rl rh
            rw [rng_len, Int.toNat_natCast, ← hal] at rt
            rw [List.take_length] at rh
            simp! [wr]
            exact h ks rs (Wild.of kl kn kk wk tn (by omega) hh h0 rl rt rh ro)
  · exact h.elim

end Z

namespace Z
open PySem L2
local macro_rules | `(tactic| simp! [$xs,*]) => `(tactic| simp only [$xs,*, ↓dSeq, ↓dAsg, ↓dOp, ↓dVar, ↓dVarR, ↓dC, ↓dCall, ↓dCons, ↓dNil, ↓dIf, ↓dRet, ↓dRetN, ↓dTup, ↓dTst, ↓dNeg, ↓dNext, ↓dCB, ↓dLstOf, ↓dLst, ↓dCat, ↓dSlL, ↓dSlS, ↓dONone, ↓dOSome, ↓dList1, ↓dChain, ↓dChain3, ↓dAndT, ↓dOrT, ↓dNotT, ↓dAndV, ↓dOrV, ↓dNotV, ↓dIfE, ↓dTru, ↓dOwn, ↓dAsgG, ↓dPar, ↓dDrop, ↓dAugI, ↓dBreak, ↓dCont, ↓dgName, ↓dgNil, ↓dgCons, ↓dgTup, ↓dFrz, ↓frzE, ↓dItA, ↓dItB, ↓dRng1, ↓dRng2, ↓dEnum, ↓dFor, ↓dSM, ↓dSM0, ↓dRepN, ↓dLc, ↓dYes, ↓wipeE, ↓dStore, ↓dLmut, ↓lmPre, ↓lmAt, ↓isLst, ↓kNx, ↓kSet, ↓lmAppend, ↓lmExtend, ↓lmPop, ↓lmPopAt, ↓lmClear, ↓lmInsert, ↓lmSet, ↓dAugL, ↓dAugS, ↓lmAugS, ↓dMake, ↓dMake0, ↓dMeth, ↓dFld, ↓dSetF, ↓dTry, ↓dTryM, ↓exM, ↓dRaise, ↓endsOf, ↓startE, ↓entOf, ↓ga, ↓pur, ↓dDnew, ↓dDput, ↓dDget, ↓dDsetd, ↓dLmX, ↓dFrzM, ↓dZip, ↓dZipM, ↓dListRev, ↓oListRev, ↓dOrG, ↓dLstM, ↓onDic, ↓onDicR, ↓onLst, ↓obD, ↓dVarP, ↓dItC, ↓onIns, ↓endsW, ↓dLidx, ↓isLD, ↓oIdx, ↓dTake, ↓dLendT, ↓dLendE, ↓lendE, ↓lend1, ↓dFzv, ↓fzv, ↓dStoreX, ↓dLidxD, ↓dGive, ↓dZip3, ↓dListD, ↓drf_int, ↓drf_str, ↓drf_bl, ↓drf_non, ↓drf_lst, ↓drf_tup, ↓drf_obj, ↓drf_dic, ↓drf_cls, ↓drf_exc, ↓drf_ty, ↓drf_ref, ↓drfO_dic, ↓drfO_lst, ↓drfO_ins, ↓drfO_non, ↓oLen_d, ↓oIn_d, ↓oNotIn_d, ↓oIn_dt, ↓oNotIn_dt, ↓kOkB_s, ↓kOkB_i, ↓oAdd_i, ↓oAdd_s, ↓oAdd_t, ↓oAdd_l, ↓oSub_i, ↓oMul_i, ↓oMulW_i, ↓oMulA_i, ↓oMulA_s, ↓oFdiv_i, ↓oMod_i, ↓oPow_i, ↓oLt_i, ↓oLtA_i, ↓oLe_i, ↓oGt_i, ↓oGe_i, ↓oEq_i, ↓oEq_s, ↓oEq_b, ↓oEq_nn, ↓oEq_ni, ↓oEq_in, ↓oEq_ns, ↓oEq_sn, ↓oNe_i, ↓oNe_s, ↓oNe_b, ↓oNe_nn, ↓oNe_ni, ↓oNe_in, ↓oNe_ns, ↓oNe_sn, ↓oIsN_, ↓oNotN_, ↓isNon_int, ↓isNon_str, ↓isNon_bl, ↓isNon_non, ↓isNon_lst, ↓isNon_tup, ↓isNon_obj, ↓isNon_exc, ↓isNon_dic, ↓oLen_s, ↓oLen_l, ↓oLen_t, ↓oAbs_, ↓oMax2_, ↓oMin2_, ↓oMinT_, ↓oMaxT_, ↓oInt1_i, ↓oInt1_b, ↓oInt1_s, ↓oStr1_, ↓oTuple1_l, ↓oTuple1_t, ↓oList1_l, ↓oList1_t, ↓oListD_d, ↓oCat_l, ↓truD_n, ↓truD_b, ↓truD_i, ↓truD_s, ↓truD_l, ↓truD_t, ↓onStr_s, ↓soStarts_, ↓soUpper_, ↓soLower_, ↓soIsupper_, ↓soFind_, ↓soStrip_, ↓soPart_, ↓soSplit_, ↓soJoin_l, ↓soJoin_t, ↓oSlL_l, ↓oSlS_l, ↓oSlS_t, ↓oSlS_s, ↓isi_int_int, ↓isi_int_str, ↓isi_int_bool, ↓isi_int_NoneType, ↓isi_int_list, ↓isi_int_tuple, ↓isi_bool_int, ↓isi_bool_str, ↓isi_bool_bool, ↓isi_bool_NoneType, ↓isi_bool_list, ↓isi_bool_tuple, ↓isi_tuple_int, ↓isi_tuple_str, ↓isi_tuple_bool, ↓isi_tuple_NoneType, ↓isi_tuple_list, ↓isi_tuple_tuple, ↓isi_str_int, ↓isi_str_str, ↓isi_str_bool, ↓isi_str_NoneType, ↓isi_str_list, ↓isi_str_tuple, ↓isi_list_int, ↓isi_list_str, ↓isi_list_bool, ↓isi_list_NoneType, ↓isi_list_list, ↓isi_list_tuple, ↓oIx_t0, ↓oIx_l0, ↓oIx_t1, ↓oIx_l1, ↓oIx_t2, ↓oIx_l2, ↓oIx_t3, ↓oIx_l3, ↓oIx_t4, ↓oIx_l4, ↓oIx_t5, ↓oIx_l5, ↓oIx_f0, ↓oIx_f1, ↓drf_fD, ↓oLen_f, ↓isi_tuple_f, ↓isi_int_f, ↓eq_fD, ↓ne_fD, ofS_inj, mem_ofS, mem_ofS0, putD_nil, putD_cons, updM_same, String.reduceEq, Nat.reduceLT, true_or, or_true, false_or, or_false, true_and, and_true, false_and, and_false, List.set_cons_zero, List.set_cons_succ, List.map_cons, List.map_nil, if_true, if_false, Bool.false_eq_true, decide_eq_true_eq, List.length_cons, List.length_nil, Int.reduceNe, Int.reduceLT, Int.reduceLE, Int.reduceEq, Int.reduceToNat, Int.reducePow, Int.reduceNeg, Int.reduceAdd, Int.reduceMul, Int.reduceSub, Nat.reduceAdd, Nat.reduceLeDiff, Nat.reduceEqDiff, Int.cast_ofNat_Int, Bool.true_eq_false, ite_not, sizeLine_eq, true_and, and_true, and_self, Int.fmod_eq_emod_of_nonneg, Int.fdiv_eq_ediv_of_nonneg, Bool.not_true, Bool.not_false, Bool.not_eq_true', decide_eq_false_iff_not, decide_true, decide_false])


end Z

namespace Z
open PySem L2
local macro_rules | `(tactic| simp! [$xs,*]) => `(tactic| simp only [$xs,*, ↓dSeq, ↓dAsg, ↓dOp, ↓dVar, ↓dVarR, ↓dC, ↓dCall, ↓dCons, ↓dNil, ↓dIf, ↓dRet, ↓dRetN, ↓dTup, ↓dTst, ↓dNeg, ↓dNext, ↓dCB, ↓dLstOf, ↓dLst, ↓dCat, ↓dSlL, ↓dSlS, ↓dONone, ↓dOSome, ↓dList1, ↓dChain, ↓dChain3, ↓dAndT, ↓dOrT, ↓dNotT, ↓dAndV, ↓dOrV, ↓dNotV, ↓dIfE, ↓dTru, ↓dOwn, ↓dAsgG, ↓dPar, ↓dDrop, ↓dAugI, ↓dBreak, ↓dCont, ↓dgName, ↓dgNil, ↓dgCons, ↓dgTup, ↓dFrz, ↓frzE, ↓dItA, ↓dItB, ↓dRng1, ↓dRng2, ↓dEnum, ↓dFor, ↓dSM, ↓dSM0, ↓dRepN, ↓dLc, ↓dYes, ↓wipeE, ↓dStore, ↓dLmut, ↓lmPre, ↓lmAt, ↓isLst, ↓kNx, ↓kSet, ↓lmAppend, ↓lmExtend, ↓lmPop, ↓lmPopAt, ↓lmClear, ↓lmInsert, ↓lmSet, ↓dAugL, ↓dAugS, ↓lmAugS, ↓dMake, ↓dMake0, ↓dMeth, ↓dFld, ↓dSetF, ↓dTry, ↓dTryM, ↓exM, ↓dRaise, ↓endsOf, ↓startE, ↓entOf, ↓ga, ↓pur, ↓dDnew, ↓dDput, ↓dDget, ↓dDsetd, ↓dLmX, ↓dFrzM, ↓dZip, ↓dZipM, ↓dListRev, ↓oListRev, ↓dOrG, ↓dLstM, ↓onDic, ↓onDicR, ↓onLst, ↓obD, ↓dVarP, ↓dItC, ↓onIns, ↓endsW, ↓dLidx, ↓isLD, ↓oIdx, ↓dTake, ↓dLendT, ↓dLendE, ↓lendE, ↓lend1, ↓dFzv, ↓fzv, ↓dStoreX, ↓dLidxD, ↓dGive, ↓dZip3, ↓dListD, ↓drf_int, ↓drf_str, ↓drf_bl, ↓drf_non, ↓drf_lst, ↓drf_tup, ↓drf_obj, ↓drf_dic, ↓drf_cls, ↓drf_exc, ↓drf_ty, ↓drf_ref, ↓drfO_dic, ↓drfO_lst, ↓drfO_ins, ↓drfO_non, ↓oLen_d, ↓oIn_d, ↓oNotIn_d, ↓oIn_dt, ↓oNotIn_dt, ↓kOkB_s, ↓kOkB_i, ↓oAdd_i, ↓oAdd_s, ↓oAdd_t, ↓oAdd_l, ↓oSub_i, ↓oMul_i, ↓oMulW_i, ↓oMulA_i, ↓oMulA_s, ↓oFdiv_i, ↓oMod_i, ↓oPow_i, ↓oLt_i, ↓oLtA_i, ↓oLe_i, ↓oGt_i, ↓oGe_i, ↓oEq_i, ↓oEq_s, ↓oEq_b, ↓oEq_nn, ↓oEq_ni, ↓oEq_in, ↓oEq_ns, ↓oEq_sn, ↓oNe_i, ↓oNe_s, ↓oNe_b, ↓oNe_nn, ↓oNe_ni, ↓oNe_in, ↓oNe_ns, ↓oNe_sn, ↓oIsN_, ↓oNotN_, ↓isNon_int, ↓isNon_str, ↓isNon_bl, ↓isNon_non, ↓isNon_lst, ↓isNon_tup, ↓isNon_obj, ↓isNon_exc, ↓isNon_dic, ↓oLen_s, ↓oLen_l, ↓oLen_t, ↓oAbs_, ↓oMax2_, ↓oMin2_, ↓oMinT_, ↓oMaxT_, ↓oInt1_i, ↓oInt1_b, ↓oInt1_s, ↓oStr1_, ↓oTuple1_l, ↓oTuple1_t, ↓oList1_l, ↓oList1_t, ↓oListD_d, ↓oCat_l, ↓truD_n, ↓truD_b, ↓truD_i, ↓truD_s, ↓truD_l, ↓truD_t, ↓onStr_s, ↓soStarts_, ↓soUpper_, ↓soLower_, ↓soIsupper_, ↓soFind_, ↓soStrip_, ↓soPart_, ↓soSplit_, ↓soJoin_l, ↓soJoin_t, ↓oSlL_l, ↓oSlS_l, ↓oSlS_t, ↓oSlS_s, ↓isi_int_int, ↓isi_int_str, ↓isi_int_bool, ↓isi_int_NoneType, ↓isi_int_list, ↓isi_int_tuple, ↓isi_bool_int, ↓isi_bool_str, ↓isi_bool_bool, ↓isi_bool_NoneType, ↓isi_bool_list, ↓isi_bool_tuple, ↓isi_tuple_int, ↓isi_tuple_str, ↓isi_tuple_bool, ↓isi_tuple_NoneType, ↓isi_tuple_list, ↓isi_tuple_tuple, ↓isi_str_int, ↓isi_str_str, ↓isi_str_bool, ↓isi_str_NoneType, ↓isi_str_list, ↓isi_str_tuple, ↓isi_list_int, ↓isi_list_str, ↓isi_list_bool, ↓isi_list_NoneType, ↓isi_list_list, ↓isi_list_tuple, ↓oIx_t0, ↓oIx_l0, ↓oIx_t1, ↓oIx_l1, ↓oIx_t2, ↓oIx_l2, ↓oIx_t3, ↓oIx_l3, ↓oIx_t4, ↓oIx_l4, ↓oIx_t5, ↓oIx_l5, ↓oIx_f0, ↓oIx_f1, ↓drf_fD, ↓oLen_f, ↓isi_tuple_f, ↓isi_int_f, ↓eq_fD, ↓ne_fD, ofS_inj, mem_ofS, mem_ofS0, putD_nil, putD_cons, updM_same, String.reduceEq, Nat.reduceLT, true_or, or_true, false_or, or_false, true_and, and_true, false_and, and_false, List.set_cons_zero, List.set_cons_succ, List.map_cons, List.map_nil, if_true, if_false, Bool.false_eq_true, decide_eq_true_eq, List.length_cons, List.length_nil, Int.reduceNe, Int.reduceLT, Int.reduceLE, Int.reduceEq, Int.reduceToNat, Int.reducePow, Int.reduceNeg, Int.reduceAdd, Int.reduceMul, Int.reduceSub, Nat.reduceAdd, Nat.reduceLeDiff, Nat.reduceEqDiff, Int.cast_ofNat_Int, Bool.true_eq_false, ite_not, sizeLine_eq, true_and, and_true, and_self, Int.fmod_eq_emod_of_nonneg, Int.fdiv_eq_ediv_of_nonneg, Bool.not_true, Bool.not_false, Bool.not_eq_true', decide_eq_false_iff_not, decide_true, decide_false])


theorem addS_cons (q : Str × List Str) (st : Stp) (h p : Str) : addS (q :: st) h p = if q.1 = h then (q.1, q.2 ++ [p]) :: st.map (fun q => if q.1 = h then (q.1, q.2 ++ [p]) else q) else q :: addS st h p := by
  by_cases z : q.1 = h
  · rw [if_pos z]
    unfold addS
    rw [if_pos (by simp [z])]
    rw [List.map_cons, if_pos z]
  · rw [if_neg z]
    unfold addS
    by_cases y : (st.any fun q => decide (q.1 = h)) = true
    · rw [if_pos y, if_pos (by rw [List.any_cons, y, Bool.or_true]), List.map_cons, if_neg z]
    · rw [if_neg y, if_neg (by rw [List.any_cons, decide_eq_false z, Bool.false_or]; exact y)]; rfl
theorem succ_map (st : Stp) (h p x : Str) (hx : x ≠ h) : succ (st.map (fun q => if q.1 = h then (q.1, q.2 ++ [p]) else q)) x = succ st x := by
  induction st with
  | nil => rfl
  | cons q st ih =>
    rw [List.map_cons, succ_cons, succ_cons, ih]
    by_cases z : q.1 = h
    · rw [if_pos z]
      have : ¬ q.1 = x := fun y => hx (y.symm.trans z)
      rw [if_neg this, if_neg this]
    · rw [if_neg z]
theorem succ_add (st : Stp) (h p x y : Str) : y ∈ succ (addS st h p) x ↔ y ∈ succ st x ∨ (x = h ∧ y = p) := by
  induction st with
  | nil =>
    show y ∈ succ [(h, [p])] x ↔ _
    rw [succ_cons]
    by_cases z : h = x
    · rw [if_pos z]; simp [succ, z.symm]
    · rw [if_neg z]
      have : ¬ x = h := fun w => z w.symm
      simp [succ, this]
  | cons q st ih =>
    rw [addS_cons, succ_cons]
    by_cases z : q.1 = h
    · rw [if_pos z, succ_cons]
      by_cases w : q.1 = x
      · rw [if_pos w, if_pos w]
        have : x = h := w.symm.trans z
        simp [this]
      · rw [if_neg w, if_neg w]
        have hx : x ≠ h := fun y => w (z.trans y.symm)
        show y ∈ succ (st.map _) x ↔ _
        rw [succ_map st h p x hx]
        simp [hx]
    · rw [if_neg z, succ_cons]
      by_cases w : q.1 = x
      · rw [if_pos w, if_pos w]
        have : ¬ x = h := fun y => z (w.trans y)
        simp [this]
      · rw [if_neg w, if_neg w]
        exact ih
def Stepped (rs : List Ru) (x y : Str) : Prop := ∃ r ∈ rs, r.head = x ∧ r.parts = [y] ∧ kindB y = true
theorem succ_step (st : Stp) (r : Ru) (x y : Str) : y ∈ succ (stepOf st r) x ↔ y ∈ succ st x ∨ (r.head = x ∧ r.parts = [y] ∧ kindB y = true) := by
  unfold stepOf
  split
  · rename_i p hp
    split
    · rename_i hk
      rw [succ_add, hp]
      constructor
      · rintro (z | ⟨rfl, rfl⟩)
        · exact .inl z
        · exact .inr ⟨rfl, rfl, hk⟩
      · rintro (z | ⟨rfl, z, _⟩)
        · exact .inl z
        · injection z with z
          exact .inr ⟨rfl, z.symm⟩
    · rename_i hk
      refine ⟨.inl, ?_⟩
      rintro (z | ⟨_, z, w⟩)
      · exact z
      · rw [hp] at z
        injection z with z
        rw [z] at hk
        exact absurd w hk
  · rename_i hp
    refine ⟨.inl, ?_⟩
    rintro (z | ⟨_, z, w⟩)
    · exact z
    · exact absurd z (hp y)
theorem succ_steps (rs : List Ru) (x y : Str) : y ∈ succ (stepsOf rs) x ↔ Stepped rs x y := by
  have go : ∀ (rs : List Ru) (st : Stp), y ∈ succ (rs.foldl stepOf st) x ↔ y ∈ succ st x ∨ Stepped rs x y := by
    intro rs
    induction rs with
    | nil => exact fun st => ⟨.inl, fun h => by
        rcases h with z | ⟨r, hr, _⟩
        · exact z
        · nomatch hr⟩
    | cons r rs ih =>
      intro st
      rw [List.foldl_cons, ih, succ_step]
      unfold Stepped
      simp only [List.mem_cons, exists_eq_or_imp, or_assoc]
  rw [show stepsOf rs = rs.foldl stepOf [] from rfl, go]
  simp [succ]
/-- rules and pairs -/
def Fit (ws : List Str) (rs : List Ru) (ps : Prs) : Prop := ∀ x y, Stepped rs x y ↔ ∃ a b, (a, b) ∈ ps ∧ ws[a]? = some x ∧ ws[b]? = some y
theorem nodup_at {ws : List Str} (h : ws.Nodup) {a b : Nat} {x : Str} (h1 : ws[a]? = some x) (h2 : ws[b]? = some x) : a = b := by
  obtain ⟨l1, e1⟩ := List.getElem?_eq_some_iff.mp h1
  obtain ⟨l2, e2⟩ := List.getElem?_eq_some_iff.mp h2
  exact (List.getElem_inj h).mp (e1.trans e2.symm)
theorem ring_iff {ws : List Str} {rs : List Ru} {ps : Prs} (hw : ws.Nodup) (h : Fit ws rs ps) (h8 : ∀ p ∈ ps, p.1 < ws.length ∧ p.2 < ws.length) : Ring rs ↔ ∃ f, Reach ps f f := by
  have fw : ∀ {x y : Str}, Lead (stepsOf rs) x y → ∃ a b, ws[a]? = some x ∧ ws[b]? = some y ∧ Reach ps a b := fun {x y} hl => by
    induction hl with
    | one hb =>
      obtain ⟨a, b, hp, e1, e2⟩ := (h _ _).mp ((succ_steps rs _ _).mp hb)
      exact ⟨a, b, e1, e2, .one hp⟩
    | more _ hc ih =>
      obtain ⟨a, b, e1, e2, hr⟩ := ih
      obtain ⟨b', c, hp, e3, e4⟩ := (h _ _).mp ((succ_steps rs _ _).mp hc)
      rw [nodup_at hw e3 e2] at hp
      exact ⟨a, c, e1, e4, .more hr hp⟩
  have bw : ∀ {a b : Nat}, Reach ps a b → ∀ x y, ws[a]? = some x → ws[b]? = some y → Lead (stepsOf rs) x y := fun {a b} hr => by
    induction hr with
    | one hp => exact fun x y e1 e2 => .one ((succ_steps rs _ _).mpr ((h _ _).mpr ⟨_, _, hp, e1, e2⟩))
    | more _ hp ih =>
      intro x y e1 e2
      have hb := (h8 _ hp).1
      refine .more (ih x (ws[_]'hb) e1 (List.getElem?_eq_getElem hb)) ?_
      exact (succ_steps rs _ _).mpr ((h _ _).mpr ⟨_, _, hp, List.getElem?_eq_getElem hb, e2⟩)
  constructor
  · rintro ⟨k, hk⟩
    obtain ⟨a, b, e1, e2, hr⟩ := fw hk
    rw [nodup_at hw e2 e1] at hr
    exact ⟨a, hr⟩
  · rintro ⟨f, hf⟩
    obtain ⟨x, hx⟩ := hf.fst
    have := (h8 _ hx).1
    exact ⟨ws[f]'this, bw hf _ _ (List.getElem?_eq_getElem this) (List.getElem?_eq_getElem this)⟩
theorem firstWT_cost : ∀ (rs : List Ru) (seen : List Str), (seen ++ titlesOf rs).Nodup → firstWT false seen rs = none
  | [], _, _ => rfl
  | r :: rs, seen, h => by
    unfold firstWT
    rw [if_neg (by simp [takesB])]
    have e : seen ++ titlesOf (r :: rs) = (seen ++ [r.title]) ++ titlesOf rs := by simp [titlesOf]
    rw [if_neg, firstWT_cost rs _ (by rw [← e]; exact h)]
    intro hm
    rw [List.nodup_append] at h
    exact h.2.2 _ hm _ (by simp [titlesOf]) rfl
/-! titles -/
def tS (k : Nat) : Str := ("s" : Str) ++ Str.ofString (toString (k : Int))
def tR (k : Nat) : Str := ("r" : Str) ++ Str.ofString (toString (k : Int))
theorem allT : ((List.range 8).map tS ++ (List.range 12).map tR).Nodup := by decide
theorem tS_ok : ∀ k < 8, wordB (tS k) = true := by decide
structure St10 (ws : List Str) (i : Nat) (rs : List Ru) (ps : Prs) : Prop where
  ti : (titlesOf rs).Perm ((List.range 8).map tS ++ (List.range i).map tR)
  hd : ∀ w ∈ ws, w ∈ headsOf rs
  pk : ∀ r ∈ rs, ∀ p ∈ r.parts, kindB p = true → p ∈ ws
  un : ∀ r ∈ rs, ∀ us, r.under = some us → ∀ u ∈ us, u ∈ (List.range 8).map tS
  ok : ∀ r ∈ rs, RuOk r ∧ r.parts.length ≤ 4
  ft : Fit ws rs ps
  p8 : ∀ p ∈ ps, p.1 < 8 ∧ p.2 < 8
  pl : ps.length ≤ i
  rl : rs.length = 8 + i
theorem Stepped.perm {rs rs' : List Ru} (h : rs'.Perm rs) (x y : Str) : Stepped rs' x y ↔ Stepped rs x y :=
  ⟨fun ⟨r, hr, z⟩ => ⟨r, h.mem_iff.mp hr, z⟩, fun ⟨r, hr, z⟩ => ⟨r, h.mem_iff.mpr hr, z⟩⟩
theorem St10.perm {ws : List Str} {i : Nat} {rs rs' : List Ru} {ps : Prs} (s : St10 ws i rs ps) (h : rs'.Perm rs) : St10 ws i rs' ps := by
  refine ⟨(h.map _).trans s.ti, fun w hw => (h.map _).mem_iff.mpr (s.hd w hw), fun r hr => s.pk r (h.mem_iff.mp hr), fun r hr => s.un r (h.mem_iff.mp hr), fun r hr => s.ok r (h.mem_iff.mp hr), fun x y => (Stepped.perm h x y).trans (s.ft x y), s.p8, s.pl, h.length_eq.trans s.rl⟩
theorem St10.gram {ws : List Str} {i : Nat} {rs : List Ru} {ps : Prs} (s : St10 ws i rs ps) (hi : i ≤ 12) (hn : ws.Nodup) (h8 : ws.length = 8) {w : Str} (hw : w ∈ ws) {b : Bool} (hb : b = true ↔ ∃ f, Reach ps f f) : rsOk rs ∧ ∀ o, GramIs "cost" w rs o → o = if b = true then some ("Ring" : Str) else none := by
  refine ⟨⟨by have := s.rl; omega, s.ok⟩, fun o ho => ?_⟩
  have hT : (titlesOf rs).Nodup := by
    refine s.ti.nodup_iff.mpr (List.Nodup.sublist ?_ allT)
    refine List.Sublist.append (List.Sublist.refl _) (List.Sublist.map _ ?_)
    exact List.range_sublist.mpr hi
  have hf : firstWT false [] rs = none := firstWT_cost rs [] (by rw [List.nil_append]; exact hT)
  have hu : undersB rs = true := by
    unfold undersB
    rw [List.all_eq_true]
    intro r hr
    rw [List.all_eq_true]
    intro u hu
    cases z : r.under with
    | none => rw [z] at hu; nomatch hu
    | some us =>
      rw [z] at hu
      exact decide_eq_true (s.ti.mem_iff.mpr (List.mem_append_left _ (s.un r hr us z u hu)))
  have hk : kindsB w rs = true := by
    unfold kindsB
    rw [List.all_eq_true]
    intro k hk
    refine decide_eq_true (s.hd k ?_)
    rcases List.mem_cons.mp hk with rfl | hk
    · exact hw
    · obtain ⟨r, hr, hk⟩ := List.mem_flatMap.mp hk
      obtain ⟨h1, h2⟩ := List.mem_filter.mp hk
      exact s.pk r hr k h1 h2
  have hr := ring_iff hn s.ft (fun p hp => by rw [h8]; exact s.p8 p hp)
  rcases ho with ⟨z, _⟩ | ⟨c, hc, ho⟩
  · exact absurd rfl z
  · have hc : c = false := by
      cases c with
      | false => rfl
      | true => exact absurd hc (by decide)
    subst hc
    rcases ho with ⟨e, he, _⟩ | ⟨_, ho⟩
    · rw [hf] at he; cases he
    · rcases ho with ⟨z, _⟩ | ⟨_, ho⟩
      · rw [hu] at z; cases z
      · rcases ho with ⟨z, _⟩ | ⟨_, ho⟩
        · rw [hk] at z; cases z
        · rcases ho with ⟨z, rfl⟩ | ⟨z, rfl⟩
          · exact (if_pos (hb.mpr (hr.mp z))).symm
          · exact (if_neg (fun y => z (hr.mpr (hb.mp y)))).symm
theorem okS_word {w : Str} (h : wordB w = true) : okS w := okS_name (by unfold wordB at h; rw [Bool.and_eq_true] at h; exact h.1)
theorem St10.add {ws : List Str} {i : Nat} {rs rs' : List Ru} {ps ps' : Prs} {r : Ru} (s : St10 ws i rs ps) (h : rs'.Perm (r :: rs)) (ht : r.title = tR i) (hp : ∀ p ∈ r.parts, kindB p = true → p ∈ ws) (hu : ∀ us, r.under = some us → ∀ u ∈ us, u ∈ (List.range 8).map tS) (ho : RuOk r ∧ r.parts.length ≤ 4)
    (hf : (ps' = ps ∧ ∀ y, r.parts ≠ [y]) ∨ ∃ a b y, ps' = ps ++ [(a, b)] ∧ a < 8 ∧ b < 8 ∧ ws[a]? = some r.head ∧ ws[b]? = some y ∧ r.parts = [y] ∧ kindB y = true) : (ws.Nodup) → St10 ws (i + 1) rs' ps' := by
  intro hn
  have base : St10 ws (i + 1) (r :: rs) ps' := by
    refine ⟨?_, fun w hw => List.mem_cons_of_mem _ (s.hd w hw), fun r' hr' => ?_, fun r' hr' => ?_, fun r' hr' => ?_, fun x y => ?_, fun p hp' => ?_, ?_, by rw [List.length_cons, s.rl]; omega⟩
    · have e : (List.range (i + 1)).map tR = (List.range i).map tR ++ [tR i] := by rw [List.range_succ, List.map_append]; rfl
      rw [e, ← List.append_assoc]
      show (r.title :: titlesOf rs).Perm _
      rw [ht]
      refine (List.Perm.cons _ s.ti).trans ?_
      exact (List.perm_append_singleton (tR i) _).symm
    · rcases List.mem_cons.mp hr' with rfl | z
      · exact hp
      · exact s.pk r' z
    · rcases List.mem_cons.mp hr' with rfl | z
      · exact hu
      · exact s.un r' z
    · rcases List.mem_cons.mp hr' with rfl | z
      · exact ho
      · exact s.ok r' z
    · have e : Stepped (r :: rs) x y ↔ (r.head = x ∧ r.parts = [y] ∧ kindB y = true) ∨ Stepped rs x y := by
        unfold Stepped
        simp only [List.mem_cons, exists_eq_or_imp]
      rw [e, s.ft x y]
      rcases hf with ⟨rfl, hno⟩ | ⟨a, b, y', rfl, ha, hb, e1, e2, e3, e4⟩
      · constructor
        · rintro (⟨_, z, _⟩ | z)
          · exact absurd z (hno y)
          · exact z
        · exact .inr
      · constructor
        · rintro (⟨z1, z2, _⟩ | ⟨a', b', h1, h2, h3⟩)
          · rw [e3] at z2
            injection z2 with z2
            exact ⟨a, b, by simp, by rw [e1, z1], by rw [e2, z2]⟩
          · exact ⟨a', b', List.mem_append_left _ h1, h2, h3⟩
        · rintro ⟨a', b', h1, h2, h3⟩
          rcases List.mem_append.mp h1 with z | z
          · exact .inr ⟨a', b', z, h2, h3⟩
          · rw [List.mem_singleton] at z
            injection z with z1 z2
            subst z1 z2
            rw [e1] at h2
            rw [e2] at h3
            injection h2 with h2
            injection h3 with h3
            exact .inl ⟨h2, by rw [e3, h3], by rw [← h3]; exact e4⟩
    · rcases hf with ⟨rfl, _⟩ | ⟨a, b, y', rfl, ha, hb, _⟩
      · exact s.p8 p hp'
      · rcases List.mem_append.mp hp' with z | z
        · exact s.p8 p z
        · rw [List.mem_singleton] at z
          subst z
          exact ⟨ha, hb⟩
    · have := s.pl
      rcases hf with ⟨rfl, _⟩ | ⟨a, b, y', rfl, _⟩
      · omega
      · rw [List.length_append, List.length_singleton]; omega
  exact base.perm h
def ruS (ws : List Str) (k : Nat) : Ru := ⟨tS k, ws.getD k "", ["x"], ((k : Int) : Rat), "", none⟩
theorem mk_rule {r : Ru} {M : Mu} {x : Addr} {K : D → Mu → Prop} {E : Str → Mu → Prop} {ps u w : D} {tt hh gg : Str} (hx : M x = none) (e1 : r.title = tt) (e2 : r.head = hh) (hp : seqOf ps r.parts) (e3 : w = fD r.weight) (e4 : r.tag = gg) (hu : undOf u r.under) (ok : RuOk r) (hg : ruGood r = true) (hK : K (ruD r) M) :
    sp_Rule_init [.ref x, .str tt, .str hh, ps, w, .str gg, u] (updM M x (.ins "Rule" [])) (fun d M2 => d = .non ∧ ∃ fs, M2 x = some (.ins "Rule" fs) ∧ K (.obj "Rule" fs) (delM M2 x)) E := by
  refine ⟨upd_at, r, e1, e2, hp, e3, e4, hu, ok, ?_⟩
  rw [if_pos hg]
  exact ⟨rfl, _, upd_at, by rw [upd_updM, del_up hx]; exact hK⟩
theorem okS_x : okS "x" := okS_name (by decide)
theorem okS_nil : okS "" := okS_of (by decide) (by decide)
theorem ruS_ok {ws : List Str} {k : Nat} (hk8 : k < 8) (h : kindB (ws.getD k "") = true ∧ okS (ws.getD k "")) : RuOk (ruS ws k) ∧ ruGood (ruS ws k) = true := by
  refine ⟨⟨okS_word (tS_ok k hk8), h.2, fun y hy => ?_, by show 1 ≤ 1000; omega, okS_nil, fun us z => (nomatch z)⟩, ?_⟩
  · have : y = "x" := by simpa [ruS] using hy
    rw [this]; exact okS_x
  · unfold ruGood
    show (wordB (tS k) && (kindB (ws.getD k "") && (partsB ["x"] && (tagB "" && underB none)))) = true
    rw [tS_ok k hk8, h.1]; decide
theorem St10.start {ws : List Str} (hw : ws.length = 8) (hk : ∀ w ∈ ws, kindB w = true ∧ okS w) : St10 ws 0 ((List.range 8).map (ruS ws)) [] := by
  have hx : kindB "x" = false := by decide
  have get : ∀ r ∈ (List.range 8).map (ruS ws), ∃ k, k < 8 ∧ r = ruS ws k := fun r hr => by
    obtain ⟨k, hk, rfl⟩ := List.mem_map.mp hr
    exact ⟨k, List.mem_range.mp hk, rfl⟩
  have at' : ∀ k, k < 8 → ws.getD k "" ∈ ws := fun k hk => by
    rw [List.getD_eq_getElem?_getD, List.getElem?_eq_getElem (by omega)]; exact List.getElem_mem _
  refine ⟨?_, fun w hw' => ?_, fun r hr p hp hkp => ?_, fun r hr us z => ?_, fun r hr => ?_, fun x y => ?_, fun p hp => (nomatch hp), by simp, by simp⟩
  · have : titlesOf ((List.range 8).map (ruS ws)) = (List.range 8).map tS := by unfold titlesOf; rw [List.map_map]; rfl
    rw [this]; simp
  · obtain ⟨k, hk8, e⟩ := List.getElem_of_mem hw'
    unfold headsOf
    rw [List.map_map]
    refine List.mem_map.mpr ⟨k, List.mem_range.mpr (by omega), ?_⟩
    show ws.getD k "" = w
    rw [List.getD_eq_getElem?_getD, List.getElem?_eq_getElem (by omega)]; exact e
  · obtain ⟨k, hk8, rfl⟩ := get r hr
    have : p = "x" := by simpa [ruS] using hp
    rw [this, hx] at hkp; cases hkp
  · obtain ⟨k, hk8, rfl⟩ := get r hr
    nomatch z
  · obtain ⟨k, hk8, rfl⟩ := get r hr
    exact ⟨(ruS_ok hk8 (hk _ (at' k hk8))).1, by show 1 ≤ 4; omega⟩
  · constructor
    · rintro ⟨r, hr, _, h2, h3⟩
      obtain ⟨k, hk8, rfl⟩ := get r hr
      have h2 : [("x" : Str)] = [y] := h2
      injection h2 with h2
      rw [← h2, hx] at h3; cases h3
    · rintro ⟨a, b, hp, _⟩
      nomatch hp

end Z

namespace Z
open PySem L2
local macro_rules | `(tactic| simp! [$xs,*]) => `(tactic| simp only [$xs,*, ↓dSeq, ↓dAsg, ↓dOp, ↓dVar, ↓dVarR, ↓dC, ↓dCall, ↓dCons, ↓dNil, ↓dIf, ↓dRet, ↓dRetN, ↓dTup, ↓dTst, ↓dNeg, ↓dNext, ↓dCB, ↓dLstOf, ↓dLst, ↓dCat, ↓dSlL, ↓dSlS, ↓dONone, ↓dOSome, ↓dList1, ↓dChain, ↓dChain3, ↓dAndT, ↓dOrT, ↓dNotT, ↓dAndV, ↓dOrV, ↓dNotV, ↓dIfE, ↓dTru, ↓dOwn, ↓dAsgG, ↓dPar, ↓dDrop, ↓dAugI, ↓dBreak, ↓dCont, ↓dgName, ↓dgNil, ↓dgCons, ↓dgTup, ↓dFrz, ↓frzE, ↓dItA, ↓dItB, ↓dRng1, ↓dRng2, ↓dEnum, ↓dFor, ↓dSM, ↓dSM0, ↓dRepN, ↓dLc, ↓dYes, ↓wipeE, ↓dStore, ↓dLmut, ↓lmPre, ↓lmAt, ↓isLst, ↓kNx, ↓kSet, ↓lmAppend, ↓lmExtend, ↓lmPop, ↓lmPopAt, ↓lmClear, ↓lmInsert, ↓lmSet, ↓dAugL, ↓dAugS, ↓lmAugS, ↓dMake, ↓dMake0, ↓dMeth, ↓dFld, ↓dSetF, ↓dTry, ↓dTryM, ↓exM, ↓dRaise, ↓endsOf, ↓startE, ↓entOf, ↓ga, ↓pur, ↓dDnew, ↓dDput, ↓dDget, ↓dDsetd, ↓dLmX, ↓dFrzM, ↓dZip, ↓dZipM, ↓dListRev, ↓oListRev, ↓dOrG, ↓dLstM, ↓onDic, ↓onDicR, ↓onLst, ↓obD, ↓dVarP, ↓dItC, ↓onIns, ↓endsW, ↓dLidx, ↓isLD, ↓oIdx, ↓dTake, ↓dLendT, ↓dLendE, ↓lendE, ↓lend1, ↓dFzv, ↓fzv, ↓dStoreX, ↓dLidxD, ↓dGive, ↓dZip3, ↓dListD, ↓drf_int, ↓drf_str, ↓drf_bl, ↓drf_non, ↓drf_lst, ↓drf_tup, ↓drf_obj, ↓drf_dic, ↓drf_cls, ↓drf_exc, ↓drf_ty, ↓drf_ref, ↓drfO_dic, ↓drfO_lst, ↓drfO_ins, ↓drfO_non, ↓oLen_d, ↓oIn_d, ↓oNotIn_d, ↓oIn_dt, ↓oNotIn_dt, ↓kOkB_s, ↓kOkB_i, ↓oAdd_i, ↓oAdd_s, ↓oAdd_t, ↓oAdd_l, ↓oSub_i, ↓oMul_i, ↓oMulW_i, ↓oMulA_i, ↓oMulA_s, ↓oFdiv_i, ↓oMod_i, ↓oPow_i, ↓oLt_i, ↓oLtA_i, ↓oLe_i, ↓oGt_i, ↓oGe_i, ↓oEq_i, ↓oEq_s, ↓oEq_b, ↓oEq_nn, ↓oEq_ni, ↓oEq_in, ↓oEq_ns, ↓oEq_sn, ↓oNe_i, ↓oNe_s, ↓oNe_b, ↓oNe_nn, ↓oNe_ni, ↓oNe_in, ↓oNe_ns, ↓oNe_sn, ↓oIsN_, ↓oNotN_, ↓isNon_int, ↓isNon_str, ↓isNon_bl, ↓isNon_non, ↓isNon_lst, ↓isNon_tup, ↓isNon_obj, ↓isNon_exc, ↓isNon_dic, ↓oLen_s, ↓oLen_l, ↓oLen_t, ↓oAbs_, ↓oMax2_, ↓oMin2_, ↓oMinT_, ↓oMaxT_, ↓oInt1_i, ↓oInt1_b, ↓oInt1_s, ↓oStr1_, ↓oTuple1_l, ↓oTuple1_t, ↓oList1_l, ↓oList1_t, ↓oListD_d, ↓oCat_l, ↓truD_n, ↓truD_b, ↓truD_i, ↓truD_s, ↓truD_l, ↓truD_t, ↓onStr_s, ↓soStarts_, ↓soUpper_, ↓soLower_, ↓soIsupper_, ↓soFind_, ↓soStrip_, ↓soPart_, ↓soSplit_, ↓soJoin_l, ↓soJoin_t, ↓oSlL_l, ↓oSlS_l, ↓oSlS_t, ↓oSlS_s, ↓isi_int_int, ↓isi_int_str, ↓isi_int_bool, ↓isi_int_NoneType, ↓isi_int_list, ↓isi_int_tuple, ↓isi_bool_int, ↓isi_bool_str, ↓isi_bool_bool, ↓isi_bool_NoneType, ↓isi_bool_list, ↓isi_bool_tuple, ↓isi_tuple_int, ↓isi_tuple_str, ↓isi_tuple_bool, ↓isi_tuple_NoneType, ↓isi_tuple_list, ↓isi_tuple_tuple, ↓isi_str_int, ↓isi_str_str, ↓isi_str_bool, ↓isi_str_NoneType, ↓isi_str_list, ↓isi_str_tuple, ↓isi_list_int, ↓isi_list_str, ↓isi_list_bool, ↓isi_list_NoneType, ↓isi_list_list, ↓isi_list_tuple, ↓oIx_t0, ↓oIx_l0, ↓oIx_t1, ↓oIx_l1, ↓oIx_t2, ↓oIx_l2, ↓oIx_t3, ↓oIx_l3, ↓oIx_t4, ↓oIx_l4, ↓oIx_t5, ↓oIx_l5, ↓oIx_f0, ↓oIx_f1, ↓drf_fD, ↓oLen_f, ↓isi_tuple_f, ↓isi_int_f, ↓eq_fD, ↓ne_fD, ofS_inj, mem_ofS, mem_ofS0, putD_nil, putD_cons, updM_same, String.reduceEq, Nat.reduceLT, true_or, or_true, false_or, or_false, true_and, and_true, false_and, and_false, List.set_cons_zero, List.set_cons_succ, List.map_cons, List.map_nil, if_true, if_false, Bool.false_eq_true, decide_eq_true_eq, List.length_cons, List.length_nil, Int.reduceNe, Int.reduceLT, Int.reduceLE, Int.reduceEq, Int.reduceToNat, Int.reducePow, Int.reduceNeg, Int.reduceAdd, Int.reduceMul, Int.reduceSub, Nat.reduceAdd, Nat.reduceLeDiff, Nat.reduceEqDiff, Int.cast_ofNat_Int, Bool.true_eq_false, ite_not, sizeLine_eq, true_and, and_true, and_self, Int.fmod_eq_emod_of_nonneg, Int.fdiv_eq_ediv_of_nonneg, Bool.not_true, Bool.not_false, Bool.not_eq_true', decide_eq_false_iff_not, decide_true, decide_false])






/-! ### what k08, k09 and k13 reckon by themselves -/
/-! rings by taking away -/
theorem Lead.trans {st : Stp} {a b c : Str} (h1 : Lead st a b) (h2 : Lead st b c) : Lead st a c := by
  induction h2 with
  | one h => exact .more h1 h
  | more _ h ih => exact .more ih h
theorem Lead.first {st : Stp} {a c : Str} (h : Lead st a c) : ∃ b, b ∈ succ st a ∧ (b = c ∨ Lead st b c) := by
  induction h with
  | one h => exact ⟨_, h, .inl rfl⟩
  | more _ h ih =>
    obtain ⟨b, h1, h2⟩ := ih
    refine ⟨b, h1, .inr ?_⟩
    rcases h2 with rfl | h2
    · exact .one h
    · exact .more h2 h
theorem word_c (c : Bool) : decide (wordS c = "chance") = c := by cases c <;> decide

end Z

namespace Z
open PySem L2
local macro_rules | `(tactic| simp! [$xs,*]) => `(tactic| simp only [$xs,*, ↓dSeq, ↓dAsg, ↓dOp, ↓dVar, ↓dVarR, ↓dC, ↓dCall, ↓dCons, ↓dNil, ↓dIf, ↓dRet, ↓dRetN, ↓dTup, ↓dTst, ↓dNeg, ↓dNext, ↓dCB, ↓dLstOf, ↓dLst, ↓dCat, ↓dSlL, ↓dSlS, ↓dONone, ↓dOSome, ↓dList1, ↓dChain, ↓dChain3, ↓dAndT, ↓dOrT, ↓dNotT, ↓dAndV, ↓dOrV, ↓dNotV, ↓dIfE, ↓dTru, ↓dOwn, ↓dAsgG, ↓dPar, ↓dDrop, ↓dAugI, ↓dBreak, ↓dCont, ↓dgName, ↓dgNil, ↓dgCons, ↓dgTup, ↓dFrz, ↓frzE, ↓dItA, ↓dItB, ↓dRng1, ↓dRng2, ↓dEnum, ↓dFor, ↓dSM, ↓dSM0, ↓dRepN, ↓dLc, ↓dYes, ↓wipeE, ↓dStore, ↓dLmut, ↓lmPre, ↓lmAt, ↓isLst, ↓kNx, ↓kSet, ↓lmAppend, ↓lmExtend, ↓lmPop, ↓lmPopAt, ↓lmClear, ↓lmInsert, ↓lmSet, ↓dAugL, ↓dAugS, ↓lmAugS, ↓dMake, ↓dMake0, ↓dMeth, ↓dFld, ↓dSetF, ↓dTry, ↓dTryM, ↓exM, ↓dRaise, ↓endsOf, ↓startE, ↓entOf, ↓ga, ↓pur, ↓dDnew, ↓dDput, ↓dDget, ↓dDsetd, ↓dLmX, ↓dFrzM, ↓dZip, ↓dZipM, ↓dListRev, ↓oListRev, ↓dOrG, ↓dLstM, ↓onDic, ↓onDicR, ↓onLst, ↓obD, ↓dVarP, ↓dItC, ↓onIns, ↓endsW, ↓dLidx, ↓isLD, ↓oIdx, ↓dTake, ↓dLendT, ↓dLendE, ↓lendE, ↓lend1, ↓dFzv, ↓fzv, ↓dStoreX, ↓dLidxD, ↓dGive, ↓dZip3, ↓dListD, ↓drf_int, ↓drf_str, ↓drf_bl, ↓drf_non, ↓drf_lst, ↓drf_tup, ↓drf_obj, ↓drf_dic, ↓drf_cls, ↓drf_exc, ↓drf_ty, ↓drf_ref, ↓drfO_dic, ↓drfO_lst, ↓drfO_ins, ↓drfO_non, ↓oLen_d, ↓oIn_d, ↓oNotIn_d, ↓oIn_dt, ↓oNotIn_dt, ↓kOkB_s, ↓kOkB_i, ↓oAdd_i, ↓oAdd_s, ↓oAdd_t, ↓oAdd_l, ↓oSub_i, ↓oMul_i, ↓oMulW_i, ↓oMulA_i, ↓oMulA_s, ↓oFdiv_i, ↓oMod_i, ↓oPow_i, ↓oLt_i, ↓oLtA_i, ↓oLe_i, ↓oGt_i, ↓oGe_i, ↓oEq_i, ↓oEq_s, ↓oEq_b, ↓oEq_nn, ↓oEq_ni, ↓oEq_in, ↓oEq_ns, ↓oEq_sn, ↓oNe_i, ↓oNe_s, ↓oNe_b, ↓oNe_nn, ↓oNe_ni, ↓oNe_in, ↓oNe_ns, ↓oNe_sn, ↓oIsN_, ↓oNotN_, ↓isNon_int, ↓isNon_str, ↓isNon_bl, ↓isNon_non, ↓isNon_lst, ↓isNon_tup, ↓isNon_obj, ↓isNon_exc, ↓isNon_dic, ↓oLen_s, ↓oLen_l, ↓oLen_t, ↓oAbs_, ↓oMax2_, ↓oMin2_, ↓oMinT_, ↓oMaxT_, ↓oInt1_i, ↓oInt1_b, ↓oInt1_s, ↓oStr1_, ↓oTuple1_l, ↓oTuple1_t, ↓oList1_l, ↓oList1_t, ↓oListD_d, ↓oCat_l, ↓truD_n, ↓truD_b, ↓truD_i, ↓truD_s, ↓truD_l, ↓truD_t, ↓onStr_s, ↓soStarts_, ↓soUpper_, ↓soLower_, ↓soIsupper_, ↓soFind_, ↓soStrip_, ↓soPart_, ↓soSplit_, ↓soJoin_l, ↓soJoin_t, ↓oSlL_l, ↓oSlS_l, ↓oSlS_t, ↓oSlS_s, ↓isi_int_int, ↓isi_int_str, ↓isi_int_bool, ↓isi_int_NoneType, ↓isi_int_list, ↓isi_int_tuple, ↓isi_bool_int, ↓isi_bool_str, ↓isi_bool_bool, ↓isi_bool_NoneType, ↓isi_bool_list, ↓isi_bool_tuple, ↓isi_tuple_int, ↓isi_tuple_str, ↓isi_tuple_bool, ↓isi_tuple_NoneType, ↓isi_tuple_list, ↓isi_tuple_tuple, ↓isi_str_int, ↓isi_str_str, ↓isi_str_bool, ↓isi_str_NoneType, ↓isi_str_list, ↓isi_str_tuple, ↓isi_list_int, ↓isi_list_str, ↓isi_list_bool, ↓isi_list_NoneType, ↓isi_list_list, ↓isi_list_tuple, ↓oIx_t0, ↓oIx_l0, ↓oIx_t1, ↓oIx_l1, ↓oIx_t2, ↓oIx_l2, ↓oIx_t3, ↓oIx_l3, ↓oIx_t4, ↓oIx_l4, ↓oIx_t5, ↓oIx_l5, ↓oIx_f0, ↓oIx_f1, ↓drf_fD, ↓oLen_f, ↓isi_tuple_f, ↓isi_int_f, ↓eq_fD, ↓ne_fD, ofS_inj, mem_ofS, mem_ofS0, putD_nil, putD_cons, updM_same, String.reduceEq, Nat.reduceLT, true_or, or_true, false_or, or_false, true_and, and_true, false_and, and_false, List.set_cons_zero, List.set_cons_succ, List.map_cons, List.map_nil, if_true, if_false, Bool.false_eq_true, decide_eq_true_eq, List.length_cons, List.length_nil, Int.reduceNe, Int.reduceLT, Int.reduceLE, Int.reduceEq, Int.reduceToNat, Int.reducePow, Int.reduceNeg, Int.reduceAdd, Int.reduceMul, Int.reduceSub, Nat.reduceAdd, Nat.reduceLeDiff, Nat.reduceEqDiff, Int.cast_ofNat_Int, Bool.true_eq_false, ite_not, sizeLine_eq, true_and, and_true, and_self, Int.fmod_eq_emod_of_nonneg, Int.fdiv_eq_ediv_of_nonneg, Bool.not_true, Bool.not_false, Bool.not_eq_true', decide_eq_false_iff_not, decide_true, decide_false])


theorem lo_alnum : ∀ c < 128, alnum c = true → alnum (PyProof.Rows.lo1 c) = true := by decide +kernel
theorem lo_gr : ∀ c < 128, isGr c = true → isGr (PyProof.Rows.lo1 c) = false := by decide +kernel
theorem lower_word {k : Str} (h : kindB k = true) : wordB (Txt.lower k) = true := by
  have hn := kind_name h
  obtain ⟨h1, h2⟩ := name_cs hn
  have hlt : ∀ c ∈ cs k, c < 128 := fun c hc => by have := alnum_lt (h2 c hc); omega
  have e : cs (Txt.lower k) = (cs k).map PyProof.Rows.lo1 := by
    rw [PyProof.Rows.lower_ascii (x := k) hlt]
    show (k.cps.map PyProof.Rows.lo1).toList = _
    rw [Array.toList_map] <;> rfl
  have n2 : nameB (Txt.lower k) = true := by
    unfold nameB
    rw [e, List.length_map, decide_eq_true h1, Bool.true_and, List.all_eq_true]
    intro c hc
    obtain ⟨d, hd, rfl⟩ := List.mem_map.mp hc
    exact lo_alnum d (hlt d hd) (h2 d hd)
  unfold wordB
  rw [n2, Bool.true_and, e]
  unfold kindB at h
  rw [hn, Bool.true_and] at h
  cases z : cs k with
  | nil => rw [z] at h; cases h
  | cons c r =>
    rw [z] at h
    show (!isGr (PyProof.Rows.lo1 c)) = true
    rw [lo_gr c (hlt c (by rw [z]; simp)) h]; rfl
/-- rows that make a grammar of the scale cost -/
structure Fine (k0 : Str) (rs : List Ru) : Prop where
  rl : rs.length ≤ 11
  ru : ∀ r ∈ rs, RuOk r ∧ ruGood r = true ∧ r.parts.length ≤ 4
  ti : (titlesOf rs).Nodup
  un : ∀ r ∈ rs, ∀ us, r.under = some us → ∀ u ∈ us, u ∈ titlesOf rs
  pk : ∀ r ∈ rs, ∀ p ∈ r.parts, kindB p = true → p ∈ headsOf rs
  h0 : k0 ∈ headsOf rs
  nr : ¬ Ring rs
theorem Fine.gram {k0 : Str} {rs : List Ru} (s : Fine k0 rs) : rsOk rs ∧ ∀ o, GramIs "cost" k0 rs o → o = none := by
  refine ⟨⟨by have := s.rl; omega, fun r hr => ⟨(s.ru r hr).1, (s.ru r hr).2.2⟩⟩, fun o ho => ?_⟩
  have hf : firstWT false [] rs = none := firstWT_cost rs [] (by rw [List.nil_append]; exact s.ti)
  have hu : undersB rs = true := by
    unfold undersB
    rw [List.all_eq_true]
    intro r hr
    rw [List.all_eq_true]
    intro u hu
    cases z : r.under with
    | none => rw [z] at hu; nomatch hu
    | some us =>
      rw [z] at hu
      exact decide_eq_true (s.un r hr us z u hu)
  have hk : kindsB k0 rs = true := by
    unfold kindsB
    rw [List.all_eq_true]
    intro k hk
    refine decide_eq_true ?_
    rcases List.mem_cons.mp hk with rfl | hk
    · exact s.h0
    · obtain ⟨r, hr, hk⟩ := List.mem_flatMap.mp hk
      obtain ⟨h1, h2⟩ := List.mem_filter.mp hk
      exact s.pk r hr k h1 h2
  rcases ho with ⟨z, _⟩ | ⟨c, hc, ho⟩
  · exact absurd rfl z
  · have hc : c = false := by
      cases c with
      | false => rfl
      | true => exact absurd hc (by decide)
    subst hc
    rcases ho with ⟨e, he, _⟩ | ⟨_, ho⟩
    · rw [hf] at he; cases he
    · rcases ho with ⟨z, _⟩ | ⟨_, ho⟩
      · rw [hu] at z; cases z
      · rcases ho with ⟨z, _⟩ | ⟨_, ho⟩
        · rw [hk] at z; cases z
        · rcases ho with ⟨z, _⟩ | ⟨_, z⟩
          · exact absurd z s.nr
          · exact z
theorem Wild.noRing {ks : List Str} {rs : List Ru} {sc : Str} (s : Wild 0 sc ks rs) : ¬ Ring rs := by
  have go : ∀ {x y : Str}, Lead (stepsOf rs) x y → ∃ a b : Nat, ks[a]? = some x ∧ ks[b]? = some y ∧ a < b := fun {x y} hl => by
    induction hl with
    | one hb =>
      obtain ⟨r, hr, e1, e2, e3⟩ := (succ_steps rs _ _).mp hb
      obtain ⟨a, b, h1, h2, h3⟩ := s.up (by decide) r hr _ e2 e3
      exact ⟨a, b, by rw [← e1]; exact h1, h2, h3⟩
    | more _ hc ih =>
      obtain ⟨a, b, h1, h2, h3⟩ := ih
      obtain ⟨r, hr, e1, e2, e3⟩ := (succ_steps rs _ _).mp hc
      obtain ⟨a', b', g1, g2, g3⟩ := s.up (by decide) r hr _ e2 e3
      rw [e1] at g1
      have := nodup_at s.kn g1 h2
      exact ⟨a, b', h1, g2, by omega⟩
  rintro ⟨k, hk⟩
  obtain ⟨a, b, h1, h2, h3⟩ := go hk
  have := nodup_at s.kn h1 h2
  omega
theorem Wild.fine {ks : List Str} {rs : List Ru} {sc k0 : Str} (s : Wild 0 sc ks rs) (h0 : ks[0]? = some k0) (hne : rs ≠ []) : Fine k0 rs := by
  refine ⟨s.rl, fun r hr => ⟨(s.ru r hr).1, (s.ru r hr).2.1, (s.ru r hr).2.2.2⟩, s.ti (by decide) (by decide), s.un (by decide) (by decide) (by decide), s.pk (by decide) (by decide), ?_, s.noRing⟩
  cases rs with
  | nil => exact absurd rfl hne
  | cons r rs =>
    have := s.h0 r rfl
    rw [h0] at this
    injection this with this
    rw [this]
    simp [headsOf]
def oneRow (k0 : Str) : Ru := ⟨Txt.lower k0, k0, ["x"], 1, "", none⟩
theorem Fine.one {k0 : Str} (hk : kindB k0 = true ∧ okS k0) : Fine k0 [oneRow k0] := by
  have hx : kindB "x" = false := by decide
  have hw := lower_word hk.1
  have par : ∀ r ∈ [oneRow k0], r = oneRow k0 := fun r hr => List.mem_singleton.mp hr
  refine ⟨by simp, fun r hr => ?_, by simp [titlesOf], fun r hr us z => ?_, fun r hr p hp hkp => ?_, by simp [headsOf, oneRow], ?_⟩
  · rw [par r hr]
    refine ⟨⟨okS_word hw, hk.2, fun p hp => ?_, by show 1 ≤ 1000; omega, okS_nil, fun us z => (nomatch z)⟩, ?_, by show 1 ≤ 4; omega⟩
    · have : p = "x" := by simpa [oneRow] using hp
      rw [this]; exact okS_x
    · show (wordB (Txt.lower k0) && (kindB k0 && (partsB ["x"] && (tagB "" && underB none)))) = true
      rw [hw, hk.1]; decide
  · rw [par r hr] at z; nomatch z
  · rw [par r hr] at hp
    have : p = "x" := by simpa [oneRow] using hp
    rw [this, hx] at hkp; cases hkp
  · rintro ⟨k, hl⟩
    have : ∀ {x y : Str}, Lead (stepsOf [oneRow k0]) x y → False := fun {x y} hl => by
      induction hl with
      | one hb =>
        obtain ⟨r, hr, e1, e2, e3⟩ := (succ_steps _ _ _).mp hb
        rw [par r hr] at e2
        have e2 : [("x" : Str)] = [_] := e2
        injection e2 with e2
        rw [← e2, hx] at e3; cases e3
      | more _ _ ih => exact ih
    exact this hl
/-! may_stand -/
theorem fld_rules {w s : Str} {rs : List Ru} {K : D → Prop} : fldD "rules" ["Grammar"] (grD w s rs) K = K (.tup (rs.map ruD)) := propext ⟨fun ⟨_, x, e, h⟩ => by cases e; exact h, fun h => ⟨by simp, _, rfl, h⟩⟩
theorem drf_gr {w s : Str} {rs : List Ru} {M : Mu} : drf M (grD w s rs) = grD w s rs := rfl
theorem pl_strs {n : Nat} {xs : List Str} (h : ∀ x ∈ xs, okS x) : pl (n + 1) (.lst (xs.map .str)) = true := by
  show (xs.map D.str).all (pl n) = true
  rw [List.all_eq_true]
  intro d hd
  obtain ⟨x, hx, rfl⟩ := List.mem_map.mp hd
  cases n <;> exact (h x hx).1
theorem pl_rows {rs : List Ru} (h : ∀ r ∈ rs, RuOk r) : pl 3 (.lst (rs.map roD)) = true := by
  show (rs.map roD).all (pl 2) = true
  rw [List.all_eq_true]
  intro d hd
  obtain ⟨r, hr, rfl⟩ := List.mem_map.mp hd
  have ok := h r hr
  show [D.str r.title, .str r.head, .lst (r.parts.map .str), fD r.weight, .str r.tag, undL r.under].all (pl 1) = true
  have g1 : pl 1 (undL r.under) = true := by
    cases z : r.under with
    | none => rfl
    | some us => exact pl_strs (n := 0) (ok.u us z).2
  have g2 : pl 1 (.lst (r.parts.map .str)) = true := pl_strs (n := 0) ok.p
  have g3 : pl 1 (fD r.weight) = true := rfl
  have a1 : pl 1 (.str r.title) = true := ok.t.1
  have a2 : pl 1 (.str r.head) = true := ok.h.1
  have a3 : pl 1 (.str r.tag) = true := ok.g.1
  simp only [List.all_cons, List.all_nil, a1, a2, g2, g3, a3, g1, Bool.and_true]
theorem eq_ll {n : Nat} {xs ys : List D} {Q : D → Prop} (h1 : pl n (.lst xs) = true) (h2 : pl n (.lst ys) = true) (hn : n ≤ 200) (b : Bool) (hb : b = true ↔ xs = ys) : oEq (.lst xs) (.lst ys) Q = Q (.bl b) := by
  have e1 : PyData.eqv (D.lst xs).py (D.lst ys).py = b := by
    rw [Bool.eq_iff_iff, eqv_iff n _ _ h1 h2, hb, D.lst.injEq]
  have s1 := pl_sh h1 hn
  have s2 := pl_sh h2 hn
  exact propext ⟨fun ⟨_, _, q⟩ => by rw [e1] at q; exact q, fun q => ⟨s1, s2, by rw [e1]; exact q⟩⟩
theorem eq_rows {rs : List Ru} {Q : D → Prop} (h : ∀ r ∈ rs, RuOk r) : oEq (.lst (rs.map roD)) (.lst []) Q = Q (.bl rs.isEmpty) := by
  refine eq_ll (pl_rows h) rfl (by decide) _ ?_
  cases rs <;> simp

end Z

namespace Z
open PySem L2
local macro_rules | `(tactic| simp! [$xs,*]) => `(tactic| simp only [$xs,*, ↓dSeq, ↓dAsg, ↓dOp, ↓dVar, ↓dVarR, ↓dC, ↓dCall, ↓dCons, ↓dNil, ↓dIf, ↓dRet, ↓dRetN, ↓dTup, ↓dTst, ↓dNeg, ↓dNext, ↓dCB, ↓dLstOf, ↓dLst, ↓dCat, ↓dSlL, ↓dSlS, ↓dONone, ↓dOSome, ↓dList1, ↓dChain, ↓dChain3, ↓dAndT, ↓dOrT, ↓dNotT, ↓dAndV, ↓dOrV, ↓dNotV, ↓dIfE, ↓dTru, ↓dOwn, ↓dAsgG, ↓dPar, ↓dDrop, ↓dAugI, ↓dBreak, ↓dCont, ↓dgName, ↓dgNil, ↓dgCons, ↓dgTup, ↓dFrz, ↓frzE, ↓dItA, ↓dItB, ↓dRng1, ↓dRng2, ↓dEnum, ↓dFor, ↓dSM, ↓dSM0, ↓dRepN, ↓dLc, ↓dYes, ↓wipeE, ↓dStore, ↓dLmut, ↓lmPre, ↓lmAt, ↓isLst, ↓kNx, ↓kSet, ↓lmAppend, ↓lmExtend, ↓lmPop, ↓lmPopAt, ↓lmClear, ↓lmInsert, ↓lmSet, ↓dAugL, ↓dAugS, ↓lmAugS, ↓dMake, ↓dMake0, ↓dMeth, ↓dFld, ↓dSetF, ↓dTry, ↓dTryM, ↓exM, ↓dRaise, ↓endsOf, ↓startE, ↓entOf, ↓ga, ↓pur, ↓dDnew, ↓dDput, ↓dDget, ↓dDsetd, ↓dLmX, ↓dFrzM, ↓dZip, ↓dZipM, ↓dListRev, ↓oListRev, ↓dOrG, ↓dLstM, ↓onDic, ↓onDicR, ↓onLst, ↓obD, ↓dVarP, ↓dItC, ↓onIns, ↓endsW, ↓dLidx, ↓isLD, ↓oIdx, ↓dTake, ↓dLendT, ↓dLendE, ↓lendE, ↓lend1, ↓dFzv, ↓fzv, ↓dStoreX, ↓dLidxD, ↓dGive, ↓dZip3, ↓dListD, ↓drf_int, ↓drf_str, ↓drf_bl, ↓drf_non, ↓drf_lst, ↓drf_tup, ↓drf_obj, ↓drf_dic, ↓drf_cls, ↓drf_exc, ↓drf_ty, ↓drf_ref, ↓drfO_dic, ↓drfO_lst, ↓drfO_ins, ↓drfO_non, ↓oLen_d, ↓oIn_d, ↓oNotIn_d, ↓oIn_dt, ↓oNotIn_dt, ↓kOkB_s, ↓kOkB_i, ↓oAdd_i, ↓oAdd_s, ↓oAdd_t, ↓oAdd_l, ↓oSub_i, ↓oMul_i, ↓oMulW_i, ↓oMulA_i, ↓oMulA_s, ↓oFdiv_i, ↓oMod_i, ↓oPow_i, ↓oLt_i, ↓oLtA_i, ↓oLe_i, ↓oGt_i, ↓oGe_i, ↓oEq_i, ↓oEq_s, ↓oEq_b, ↓oEq_nn, ↓oEq_ni, ↓oEq_in, ↓oEq_ns, ↓oEq_sn, ↓oNe_i, ↓oNe_s, ↓oNe_b, ↓oNe_nn, ↓oNe_ni, ↓oNe_in, ↓oNe_ns, ↓oNe_sn, ↓oIsN_, ↓oNotN_, ↓isNon_int, ↓isNon_str, ↓isNon_bl, ↓isNon_non, ↓isNon_lst, ↓isNon_tup, ↓isNon_obj, ↓isNon_exc, ↓isNon_dic, ↓oLen_s, ↓oLen_l, ↓oLen_t, ↓oAbs_, ↓oMax2_, ↓oMin2_, ↓oMinT_, ↓oMaxT_, ↓oInt1_i, ↓oInt1_b, ↓oInt1_s, ↓oStr1_, ↓oTuple1_l, ↓oTuple1_t, ↓oList1_l, ↓oList1_t, ↓oListD_d, ↓oCat_l, ↓truD_n, ↓truD_b, ↓truD_i, ↓truD_s, ↓truD_l, ↓truD_t, ↓onStr_s, ↓soStarts_, ↓soUpper_, ↓soLower_, ↓soIsupper_, ↓soFind_, ↓soStrip_, ↓soPart_, ↓soSplit_, ↓soJoin_l, ↓soJoin_t, ↓oSlL_l, ↓oSlS_l, ↓oSlS_t, ↓oSlS_s, ↓isi_int_int, ↓isi_int_str, ↓isi_int_bool, ↓isi_int_NoneType, ↓isi_int_list, ↓isi_int_tuple, ↓isi_bool_int, ↓isi_bool_str, ↓isi_bool_bool, ↓isi_bool_NoneType, ↓isi_bool_list, ↓isi_bool_tuple, ↓isi_tuple_int, ↓isi_tuple_str, ↓isi_tuple_bool, ↓isi_tuple_NoneType, ↓isi_tuple_list, ↓isi_tuple_tuple, ↓isi_str_int, ↓isi_str_str, ↓isi_str_bool, ↓isi_str_NoneType, ↓isi_str_list, ↓isi_str_tuple, ↓isi_list_int, ↓isi_list_str, ↓isi_list_bool, ↓isi_list_NoneType, ↓isi_list_list, ↓isi_list_tuple, ↓oIx_t0, ↓oIx_l0, ↓oIx_t1, ↓oIx_l1, ↓oIx_t2, ↓oIx_l2, ↓oIx_t3, ↓oIx_l3, ↓oIx_t4, ↓oIx_l4, ↓oIx_t5, ↓oIx_l5, ↓oIx_f0, ↓oIx_f1, ↓drf_fD, ↓oLen_f, ↓isi_tuple_f, ↓isi_int_f, ↓eq_fD, ↓ne_fD, ofS_inj, mem_ofS, mem_ofS0, putD_nil, putD_cons, updM_same, String.reduceEq, Nat.reduceLT, true_or, or_true, false_or, or_false, true_and, and_true, false_and, and_false, List.set_cons_zero, List.set_cons_succ, List.map_cons, List.map_nil, if_true, if_false, Bool.false_eq_true, decide_eq_true_eq, List.length_cons, List.length_nil, Int.reduceNe, Int.reduceLT, Int.reduceLE, Int.reduceEq, Int.reduceToNat, Int.reducePow, Int.reduceNeg, Int.reduceAdd, Int.reduceMul, Int.reduceSub, Nat.reduceAdd, Nat.reduceLeDiff, Nat.reduceEqDiff, Int.cast_ofNat_Int, Bool.true_eq_false, ite_not, sizeLine_eq, true_and, and_true, and_self, Int.fmod_eq_emod_of_nonneg, Int.fdiv_eq_ediv_of_nonneg, Bool.not_true, Bool.not_false, Bool.not_eq_true', decide_eq_false_iff_not, decide_true, decide_false])
def t_l_rule_is : DTS :=
 (dSeq (dIf (dOrT (dTst (dOp oNe (dFld "title" ["Rule"] (dVarR 0)) (dOp oIx (dVarR 1) (dC (.int 0))))) (dOrT (dTst (dOp oNe (dFld "head" ["Rule"] (dVarR 0)) (dOp oIx (dVarR 1) (dC (.int 1))))) (dOrT (dTst (dOp oNe (dFld "weight" ["Rule"] (dVarR 0)) (dOp oIx (dVarR 1) (dC (.int 3))))) (dTst (dOp oNe (dFld "tag" ["Rule"] (dVarR 0)) (dOp oIx (dVarR 1) (dC (.int 4)))))))) (dRet (dC (.bl false))) dNext)
 (dSeq (dIf (dOrT (dNotT (dTru (dCB (oIsi "tuple") (dCons (dFld "parts" ["Rule"] (dVarR 0)) (dCons (dC (.ty "tuple")) dNil))))) (dTst (dOp oNe (dFld "parts" ["Rule"] (dVarR 0)) (dCB oTuple1 (dCons (dOp oIx (dVarR 1) (dC (.int 2))) dNil))))) (dRet (dC (.bl false))) dNext)
 (dSeq (dIf (dTst (dOp oIsN (dOp oIx (dVarR 1) (dC (.int 5))) (dC .non))) (dRet (dOp oIsN (dFld "under" ["Rule"] (dVarR 0)) (dC .non))) dNext)
 (dRet (dAndV (dCB (oIsi "tuple") (dCons (dFld "under" ["Rule"] (dVarR 0)) (dCons (dC (.ty "tuple")) dNil))) (dOp oEq (dFld "under" ["Rule"] (dVarR 0)) (dCB oTuple1 (dCons (dOp oIx (dVarR 1) (dC (.int 5))) dNil))))))))



def sp_l_rule_is : SpD := fun ds Q _ => match ds with
  | [a, b] => ∃ r, a = ruD r ∧ b = roD r ∧ RuOk r ∧ Q (.bl true)
  | _ => False
theorem eq_strT {xs : List Str} {Q : D → Prop} (h : ∀ x ∈ xs, okS x) : oEq (.tup (xs.map .str)) (.tup (xs.map .str)) Q = Q (.bl true) := by
  have h1 : pl 1 (.tup (xs.map .str)) = true := by
    show (xs.map D.str).all (pl 0) = true
    rw [List.all_eq_true]
    intro d hd
    obtain ⟨x, hx, rfl⟩ := List.mem_map.mp hd
    exact (h x hx).1
  have e1 : PyData.eqv (D.tup (xs.map .str)).py (D.tup (xs.map .str)).py = true := (eqv_iff 1 _ _ h1 h1).mpr rfl
  have s1 := pl_sh h1 (by decide)
  exact propext ⟨fun ⟨_, _, q⟩ => by rw [e1] at q; exact q, fun q => ⟨s1, s1, by rw [e1]; exact q⟩⟩
theorem ne_strT {xs : List Str} {Q : D → Prop} (h : ∀ x ∈ xs, okS x) : oNe (.tup (xs.map .str)) (.tup (xs.map .str)) Q = Q (.bl false) :=
  eq_strT (Q := fun d => match d with | .bl b => Q (.bl (!b)) | d => Q d) h
theorem r_l_rule_is (ds M Q E) (h : pur sp_l_rule_is ds M Q E) : t_l_rule_is (endsOf Q E) (startE [false, false] 2 ds) M := by
  obtain ⟨_, _, rfl, r, rfl, rfl, ok, h'⟩ := sp2 h
  have e1 : ∀ Q : D → Prop, oNe (.tup (r.parts.map .str)) (.tup (r.parts.map .str)) Q = Q (.bl false) := fun Q => ne_strT ok.p
  simp! [t_l_rule_is, drf_ru, fld_title, fld_head, fld_weight, fld_tag, fld_parts, fld_under, roD, ne_fD, drf_fD, strT, tyS, Option.isSome, e1]
  cases hu : r.under with
  | none =>
    simp! [undL, undD]
    exact h'
  | some us =>
    have e2 : ∀ Q : D → Prop, oEq (.tup (us.map .str)) (.tup (us.map .str)) Q = Q (.bl true) := fun Q => eq_strT (ok.u us hu).2
    simp! [undL, undD, strT, tyS, Option.isSome, e2]
    exact h'

end Z

namespace Z
open PySem L2
local macro_rules | `(tactic| simp! [$xs,*]) => `(tactic| simp only [$xs,*, ↓dSeq, ↓dAsg, ↓dOp, ↓dVar, ↓dVarR, ↓dC, ↓dCall, ↓dCons, ↓dNil, ↓dIf, ↓dRet, ↓dRetN, ↓dTup, ↓dTst, ↓dNeg, ↓dNext, ↓dCB, ↓dLstOf, ↓dLst, ↓dCat, ↓dSlL, ↓dSlS, ↓dONone, ↓dOSome, ↓dList1, ↓dChain, ↓dChain3, ↓dAndT, ↓dOrT, ↓dNotT, ↓dAndV, ↓dOrV, ↓dNotV, ↓dIfE, ↓dTru, ↓dOwn, ↓dAsgG, ↓dPar, ↓dDrop, ↓dAugI, ↓dBreak, ↓dCont, ↓dgName, ↓dgNil, ↓dgCons, ↓dgTup, ↓dFrz, ↓frzE, ↓dItA, ↓dItB, ↓dRng1, ↓dRng2, ↓dEnum, ↓dFor, ↓dSM, ↓dSM0, ↓dRepN, ↓dLc, ↓dYes, ↓wipeE, ↓dStore, ↓dLmut, ↓lmPre, ↓lmAt, ↓isLst, ↓kNx, ↓kSet, ↓lmAppend, ↓lmExtend, ↓lmPop, ↓lmPopAt, ↓lmClear, ↓lmInsert, ↓lmSet, ↓dAugL, ↓dAugS, ↓lmAugS, ↓dMake, ↓dMake0, ↓dMeth, ↓dFld, ↓dSetF, ↓dTry, ↓dTryM, ↓exM, ↓dRaise, ↓endsOf, ↓startE, ↓entOf, ↓ga, ↓pur, ↓dDnew, ↓dDput, ↓dDget, ↓dDsetd, ↓dLmX, ↓dFrzM, ↓dZip, ↓dZipM, ↓dListRev, ↓oListRev, ↓dOrG, ↓dLstM, ↓onDic, ↓onDicR, ↓onLst, ↓obD, ↓dVarP, ↓dItC, ↓onIns, ↓endsW, ↓dLidx, ↓isLD, ↓oIdx, ↓dTake, ↓dLendT, ↓dLendE, ↓lendE, ↓lend1, ↓dFzv, ↓fzv, ↓dStoreX, ↓dLidxD, ↓dGive, ↓dZip3, ↓dListD, ↓drf_int, ↓drf_str, ↓drf_bl, ↓drf_non, ↓drf_lst, ↓drf_tup, ↓drf_obj, ↓drf_dic, ↓drf_cls, ↓drf_exc, ↓drf_ty, ↓drf_ref, ↓drfO_dic, ↓drfO_lst, ↓drfO_ins, ↓drfO_non, ↓oLen_d, ↓oIn_d, ↓oNotIn_d, ↓oIn_dt, ↓oNotIn_dt, ↓kOkB_s, ↓kOkB_i, ↓oAdd_i, ↓oAdd_s, ↓oAdd_t, ↓oAdd_l, ↓oSub_i, ↓oMul_i, ↓oMulW_i, ↓oMulA_i, ↓oMulA_s, ↓oFdiv_i, ↓oMod_i, ↓oPow_i, ↓oLt_i, ↓oLtA_i, ↓oLe_i, ↓oGt_i, ↓oGe_i, ↓oEq_i, ↓oEq_s, ↓oEq_b, ↓oEq_nn, ↓oEq_ni, ↓oEq_in, ↓oEq_ns, ↓oEq_sn, ↓oNe_i, ↓oNe_s, ↓oNe_b, ↓oNe_nn, ↓oNe_ni, ↓oNe_in, ↓oNe_ns, ↓oNe_sn, ↓oIsN_, ↓oNotN_, ↓isNon_int, ↓isNon_str, ↓isNon_bl, ↓isNon_non, ↓isNon_lst, ↓isNon_tup, ↓isNon_obj, ↓isNon_exc, ↓isNon_dic, ↓oLen_s, ↓oLen_l, ↓oLen_t, ↓oAbs_, ↓oMax2_, ↓oMin2_, ↓oMinT_, ↓oMaxT_, ↓oInt1_i, ↓oInt1_b, ↓oInt1_s, ↓oStr1_, ↓oTuple1_l, ↓oTuple1_t, ↓oList1_l, ↓oList1_t, ↓oListD_d, ↓oCat_l, ↓truD_n, ↓truD_b, ↓truD_i, ↓truD_s, ↓truD_l, ↓truD_t, ↓onStr_s, ↓soStarts_, ↓soUpper_, ↓soLower_, ↓soIsupper_, ↓soFind_, ↓soStrip_, ↓soPart_, ↓soSplit_, ↓soJoin_l, ↓soJoin_t, ↓oSlL_l, ↓oSlS_l, ↓oSlS_t, ↓oSlS_s, ↓isi_int_int, ↓isi_int_str, ↓isi_int_bool, ↓isi_int_NoneType, ↓isi_int_list, ↓isi_int_tuple, ↓isi_bool_int, ↓isi_bool_str, ↓isi_bool_bool, ↓isi_bool_NoneType, ↓isi_bool_list, ↓isi_bool_tuple, ↓isi_tuple_int, ↓isi_tuple_str, ↓isi_tuple_bool, ↓isi_tuple_NoneType, ↓isi_tuple_list, ↓isi_tuple_tuple, ↓isi_str_int, ↓isi_str_str, ↓isi_str_bool, ↓isi_str_NoneType, ↓isi_str_list, ↓isi_str_tuple, ↓isi_list_int, ↓isi_list_str, ↓isi_list_bool, ↓isi_list_NoneType, ↓isi_list_list, ↓isi_list_tuple, ↓oIx_t0, ↓oIx_l0, ↓oIx_t1, ↓oIx_l1, ↓oIx_t2, ↓oIx_l2, ↓oIx_t3, ↓oIx_l3, ↓oIx_t4, ↓oIx_l4, ↓oIx_t5, ↓oIx_l5, ↓oIx_f0, ↓oIx_f1, ↓drf_fD, ↓oLen_f, ↓isi_tuple_f, ↓isi_int_f, ↓eq_fD, ↓ne_fD, ofS_inj, mem_ofS, mem_ofS0, putD_nil, putD_cons, updM_same, String.reduceEq, Nat.reduceLT, true_or, or_true, false_or, or_false, true_and, and_true, false_and, and_false, List.set_cons_zero, List.set_cons_succ, List.map_cons, List.map_nil, if_true, if_false, Bool.false_eq_true, decide_eq_true_eq, List.length_cons, List.length_nil, Int.reduceNe, Int.reduceLT, Int.reduceLE, Int.reduceEq, Int.reduceToNat, Int.reducePow, Int.reduceNeg, Int.reduceAdd, Int.reduceMul, Int.reduceSub, Nat.reduceAdd, Nat.reduceLeDiff, Nat.reduceEqDiff, Int.cast_ofNat_Int, Bool.true_eq_false, ite_not, sizeLine_eq, true_and, and_true, and_self, Int.fmod_eq_emod_of_nonneg, Int.fdiv_eq_ediv_of_nonneg, Bool.not_true, Bool.not_false, Bool.not_eq_true', decide_eq_false_iff_not, decide_true, decide_false])
def t_l_kept (p_l_rule_is : SpM) : DTS :=
 (dSeq (dIf (dOrT (dTst (dOp oNe (dFld "scale" ["Grammar"] (dVarR 0)) (dVarR 1))) (dOrT (dTst (dOp oNe (dFld "start" ["Grammar"] (dVarR 0)) (dVarR 2))) (dNotT (dTru (dCB (oIsi "tuple") (dCons (dFld "rules" ["Grammar"] (dVarR 0)) (dCons (dC (.ty "tuple")) dNil))))))) (dRet (dC (.bl false))) dNext)
 (dRet (dAndV (dOp oEq (dCB oLen (dCons (dFld "rules" ["Grammar"] (dVarR 0)) dNil)) (dCB oLen (dCons (dVarR 3) dNil))) (dCB oAll (dCons (dLstOf (dLc (dZipM (dCons (dFld "rules" ["Grammar"] (dVarR 0)) (dCons (dVar 3) dNil))) (dgTup 2 (dgCons (dgName 4) (dgCons (dgName 5) dgNil))) dYes (dCall p_l_rule_is (dCons (dVar 4) (dCons (dVar 5) dNil))) [4, 5])) dNil)))))


theorem firstWT_mem (c : Bool) : ∀ (rs : List Ru) (seen : List Str) (e : Str), firstWT c seen rs = some e → e = "NoWeight" ∨ e = "Twice"
  | [], _, _, h => by cases h
  | r :: rs, seen, e, h => by
    unfold firstWT at h
    split at h
    · cases h; exact .inl rfl
    · split at h
      · cases h; exact .inr rfl
      · exact firstWT_mem c rs _ e h
theorem wordS_inj {c d : Bool} (h : wordS c = wordS d) : c = d := by
  have e1 := word_c c
  rw [h, word_c d] at e1
  exact e1.symm
theorem wordS_no {c : Bool} (h1 : wordS c ≠ "cost") (h2 : wordS c ≠ "chance") : False := by
  cases c
  · exact h1 rfl
  · exact h2 rfl
theorem GramIs.mem {w s : Str} {rs : List Ru} {e : Str} (h : GramIs w s rs (some e)) : e ∈ (["NoScale", "NoWeight", "Twice", "NoTitle", "NoKind", "Ring"] : List Str) := by
  unfold GramIs at h
  simp only [List.mem_cons, List.not_mem_nil, or_false]
  rcases h with ⟨_, _, h⟩ | ⟨c, _, ⟨e', h1, h⟩ | ⟨_, ⟨_, h⟩ | ⟨_, ⟨_, h⟩ | ⟨_, ⟨_, h⟩ | ⟨_, h⟩⟩⟩⟩⟩
  all_goals cases h
  · exact .inl rfl
  · rcases firstWT_mem c rs _ _ h1 with rfl | rfl
    · exact .inr (.inl rfl)
    · exact .inr (.inr (.inl rfl))
  · exact .inr (.inr (.inr (.inl rfl)))
  · exact .inr (.inr (.inr (.inr (.inl rfl))))
  · exact .inr (.inr (.inr (.inr (.inr rfl))))
theorem zip_same {α : Type} (f g : α → D) : ∀ as : List α, zipD (as.map f) (as.map g) = as.map fun a => .tup [f a, g a]
  | [] => rfl
  | a :: as => by
    have := zip_same f g as
    unfold zipD at this ⊢
    rw [List.map_cons, List.map_cons, List.zip_cons_cons, List.map_cons, this]; rfl
theorem oAll_true {n : Nat} {Q : D → Prop} : oAll [.lst (List.replicate n (.bl true))] Q = Q (.bl true) := by
  have e := oAll_bls (P := fun _ => true) (xs := List.replicate n "") (Q := Q)
  rw [List.map_replicate] at e
  rw [e]
  congr 2
  simp
theorem map_const_rep {α : Type} (as : List α) (d : D) : as.map (fun _ => d) = List.replicate as.length d := by
  induction as with
  | nil => rfl
  | cons a as ih => rw [List.map_cons, ih]; rfl
theorem fld_scale {w s : Str} {rs : List Ru} {K : D → Prop} : fldD "scale" ["Grammar"] (grD w s rs) K = K (.str w) := propext ⟨fun ⟨_, x, e, h⟩ => by cases e; exact h, fun h => ⟨by simp, _, rfl, h⟩⟩
theorem fld_start {w s : Str} {rs : List Ru} {K : D → Prop} : fldD "start" ["Grammar"] (grD w s rs) K = K (.str s) := propext ⟨fun ⟨_, x, e, h⟩ => by cases e; exact h, fun h => ⟨by simp, _, rfl, h⟩⟩
def sp_l_kept : SpD := fun ds Q _ => match ds with
  | [m, .str w, .str s, .lst xs] => ∃ rs, m = grD w s rs ∧ xs = rs.map roD ∧ rs.length ≤ 1000 ∧ okS w ∧ okS s ∧ (∀ r ∈ rs, RuOk r) ∧ Q (.bl true)
  | _ => False
theorem r_l_kept (ds M Q E) (h : pur sp_l_kept ds M Q E) : t_l_kept (pur sp_l_rule_is) (endsOf Q E) (startE [false, false, false, false] 6 ds) M := by
  unfold pur sp_l_kept at h
  dsimp only at h
  split at h
  · rename_i m w s xs
    obtain ⟨rs, rfl, rfl, hl, ow, os, ok, h⟩ := h
    simp! [t_l_kept, drf_gr, fld_scale, fld_start, fld_rules, tyS, Option.isSome, List.length_map, zip_same]
    refine lc_of (as := rs) (f := fun _ => .bl true) (by omega) (fun r hr K N hK => ?_) ?_
    · simp! [sp_l_rule_is]
      exact ⟨r, rfl, rfl, ok r hr, hK⟩
    · rw [map_const_rep]
      simp! [oAll_true]
      exact h
  · exact h.elim
def r9 (ns : List Int) (n : Int) (sc : Str) (ks : List Str) (rs : List Ru) (st : Str) (mode : Int) (e7 e8 e9 e10 e11 e12 : Ent) : List Ent :=
  [.dat (.lst (ns.map .int)), .dat (.int n), .dat (.str sc), .dat (.int mode), .dat (.tup [.lst (ks.map .str), .lst (rs.map roD)]), .dat (.lst (rs.map roD)), .dat (.str st), e7, e8, e9, e10, e11, e12]
theorem okS_sc {sc : Str} (h : sc ∈ (["cost", "chance", "", "Cost", "costs", "chances", "chance ", "sum"] : List Str)) : okS sc := by
  simp only [List.mem_cons, List.not_mem_nil, or_false] at h
  rcases h with rfl | rfl | rfl | rfl | rfl | rfl | rfl | rfl <;> exact okS_of (by decide) (by decide)

end Z

namespace Z
open PySem L2
local macro_rules | `(tactic| simp! [$xs,*]) => `(tactic| simp only [$xs,*, ↓dSeq, ↓dAsg, ↓dOp, ↓dVar, ↓dVarR, ↓dC, ↓dCall, ↓dCons, ↓dNil, ↓dIf, ↓dRet, ↓dRetN, ↓dTup, ↓dTst, ↓dNeg, ↓dNext, ↓dCB, ↓dLstOf, ↓dLst, ↓dCat, ↓dSlL, ↓dSlS, ↓dONone, ↓dOSome, ↓dList1, ↓dChain, ↓dChain3, ↓dAndT, ↓dOrT, ↓dNotT, ↓dAndV, ↓dOrV, ↓dNotV, ↓dIfE, ↓dTru, ↓dOwn, ↓dAsgG, ↓dPar, ↓dDrop, ↓dAugI, ↓dBreak, ↓dCont, ↓dgName, ↓dgNil, ↓dgCons, ↓dgTup, ↓dFrz, ↓frzE, ↓dItA, ↓dItB, ↓dRng1, ↓dRng2, ↓dEnum, ↓dFor, ↓dSM, ↓dSM0, ↓dRepN, ↓dLc, ↓dYes, ↓wipeE, ↓dStore, ↓dLmut, ↓lmPre, ↓lmAt, ↓isLst, ↓kNx, ↓kSet, ↓lmAppend, ↓lmExtend, ↓lmPop, ↓lmPopAt, ↓lmClear, ↓lmInsert, ↓lmSet, ↓dAugL, ↓dAugS, ↓lmAugS, ↓dMake, ↓dMake0, ↓dMeth, ↓dFld, ↓dSetF, ↓dTry, ↓dTryM, ↓exM, ↓dRaise, ↓endsOf, ↓startE, ↓entOf, ↓ga, ↓pur, ↓dDnew, ↓dDput, ↓dDget, ↓dDsetd, ↓dLmX, ↓dFrzM, ↓dZip, ↓dZipM, ↓dListRev, ↓oListRev, ↓dOrG, ↓dLstM, ↓onDic, ↓onDicR, ↓onLst, ↓obD, ↓dVarP, ↓dItC, ↓onIns, ↓endsW, ↓dLidx, ↓isLD, ↓oIdx, ↓dTake, ↓dLendT, ↓dLendE, ↓lendE, ↓lend1, ↓dFzv, ↓fzv, ↓dStoreX, ↓dLidxD, ↓dGive, ↓dZip3, ↓dListD, ↓drf_int, ↓drf_str, ↓drf_bl, ↓drf_non, ↓drf_lst, ↓drf_tup, ↓drf_obj, ↓drf_dic, ↓drf_cls, ↓drf_exc, ↓drf_ty, ↓drf_ref, ↓drfO_dic, ↓drfO_lst, ↓drfO_ins, ↓drfO_non, ↓oLen_d, ↓oIn_d, ↓oNotIn_d, ↓oIn_dt, ↓oNotIn_dt, ↓kOkB_s, ↓kOkB_i, ↓oAdd_i, ↓oAdd_s, ↓oAdd_t, ↓oAdd_l, ↓oSub_i, ↓oMul_i, ↓oMulW_i, ↓oMulA_i, ↓oMulA_s, ↓oFdiv_i, ↓oMod_i, ↓oPow_i, ↓oLt_i, ↓oLtA_i, ↓oLe_i, ↓oGt_i, ↓oGe_i, ↓oEq_i, ↓oEq_s, ↓oEq_b, ↓oEq_nn, ↓oEq_ni, ↓oEq_in, ↓oEq_ns, ↓oEq_sn, ↓oNe_i, ↓oNe_s, ↓oNe_b, ↓oNe_nn, ↓oNe_ni, ↓oNe_in, ↓oNe_ns, ↓oNe_sn, ↓oIsN_, ↓oNotN_, ↓isNon_int, ↓isNon_str, ↓isNon_bl, ↓isNon_non, ↓isNon_lst, ↓isNon_tup, ↓isNon_obj, ↓isNon_exc, ↓isNon_dic, ↓oLen_s, ↓oLen_l, ↓oLen_t, ↓oAbs_, ↓oMax2_, ↓oMin2_, ↓oMinT_, ↓oMaxT_, ↓oInt1_i, ↓oInt1_b, ↓oInt1_s, ↓oStr1_, ↓oTuple1_l, ↓oTuple1_t, ↓oList1_l, ↓oList1_t, ↓oListD_d, ↓oCat_l, ↓truD_n, ↓truD_b, ↓truD_i, ↓truD_s, ↓truD_l, ↓truD_t, ↓onStr_s, ↓soStarts_, ↓soUpper_, ↓soLower_, ↓soIsupper_, ↓soFind_, ↓soStrip_, ↓soPart_, ↓soSplit_, ↓soJoin_l, ↓soJoin_t, ↓oSlL_l, ↓oSlS_l, ↓oSlS_t, ↓oSlS_s, ↓isi_int_int, ↓isi_int_str, ↓isi_int_bool, ↓isi_int_NoneType, ↓isi_int_list, ↓isi_int_tuple, ↓isi_bool_int, ↓isi_bool_str, ↓isi_bool_bool, ↓isi_bool_NoneType, ↓isi_bool_list, ↓isi_bool_tuple, ↓isi_tuple_int, ↓isi_tuple_str, ↓isi_tuple_bool, ↓isi_tuple_NoneType, ↓isi_tuple_list, ↓isi_tuple_tuple, ↓isi_str_int, ↓isi_str_str, ↓isi_str_bool, ↓isi_str_NoneType, ↓isi_str_list, ↓isi_str_tuple, ↓isi_list_int, ↓isi_list_str, ↓isi_list_bool, ↓isi_list_NoneType, ↓isi_list_list, ↓isi_list_tuple, ↓oIx_t0, ↓oIx_l0, ↓oIx_t1, ↓oIx_l1, ↓oIx_t2, ↓oIx_l2, ↓oIx_t3, ↓oIx_l3, ↓oIx_t4, ↓oIx_l4, ↓oIx_t5, ↓oIx_l5, ↓oIx_f0, ↓oIx_f1, ↓drf_fD, ↓oLen_f, ↓isi_tuple_f, ↓isi_int_f, ↓eq_fD, ↓ne_fD, ofS_inj, mem_ofS, mem_ofS0, putD_nil, putD_cons, updM_same, String.reduceEq, Nat.reduceLT, true_or, or_true, false_or, or_false, true_and, and_true, false_and, and_false, List.set_cons_zero, List.set_cons_succ, List.map_cons, List.map_nil, if_true, if_false, Bool.false_eq_true, decide_eq_true_eq, List.length_cons, List.length_nil, Int.reduceNe, Int.reduceLT, Int.reduceLE, Int.reduceEq, Int.reduceToNat, Int.reducePow, Int.reduceNeg, Int.reduceAdd, Int.reduceMul, Int.reduceSub, Nat.reduceAdd, Nat.reduceLeDiff, Nat.reduceEqDiff, Int.cast_ofNat_Int, Bool.true_eq_false, ite_not, sizeLine_eq, true_and, and_true, and_self, Int.fmod_eq_emod_of_nonneg, Int.fdiv_eq_ediv_of_nonneg, Bool.not_true, Bool.not_false, Bool.not_eq_true', decide_eq_false_iff_not, decide_true, decide_false])
def t_left_out : DTS :=
 (dRet (dOp oEq (dSM soStrip (dVarR 0) (dCons (dC (.str " ")) dNil)) (dC (.str ""))))

def t_line_words : DTS :=
 (dSeq (dAsg 1 (dSM soSplit (dVarR 0) (dCons (dC (.str " ")) dNil)))
 (dSeq (dIf (dTst (dOp oIn (dC (.str "")) (dVarR 1))) (dRaise "NoLine") dNext)
 (dRet (dVar 1))))

def t_rule_text (p_fraction_text : SpM) : DTS :=
 (dSeq (dOwn 1 (dCat (dOp oAdd (dLstOf (dLst (dCons (dC (.str "rule")) (dCons (dFld "title" ["Rule"] (dVarR 0)) (dCons (dFld "head" ["Rule"] (dVarR 0)) (dCons (dC (.str "->")) dNil)))))) (dLstOf (dList1 (dCons (dFld "parts" ["Rule"] (dVarR 0)) dNil)))) (dLstOf (dLst (dCons (dC (.str ":")) (dCons (dCall p_fraction_text (dCons (dFld "weight" ["Rule"] (dVarR 0)) dNil)) dNil))))))
 (dSeq (dIf (dTst (dOp oNe (dFld "tag" ["Rule"] (dVarR 0)) (dC (.str "")))) (fun DD ρ M => lmPre ρ M 1 ∧ dAugL 1 (dLstOf (dLst (dCons (dC (.str "tag")) (dCons (dFld "tag" ["Rule"] (dVarR 0)) dNil)))) DD ρ M) dNext)
 (dSeq (dIf (dTst (dOp oNotN (dFld "under" ["Rule"] (dVarR 0)) (dC .non))) (fun DD ρ M => lmPre ρ M 1 ∧ dAugL 1 (dOp oAdd (dLstOf (dLst (dCons (dC (.str "under")) dNil))) (dLstOf (dList1 (dCons (dFld "under" ["Rule"] (dVarR 0)) dNil)))) DD ρ M) dNext)
 (dRet (dSM soJoin (dC (.str " ")) (dCons (dVarR 1) dNil))))))

def t_grammar_text (p_rule_text : SpM) : DTS :=
 (dSeq (dOwn 1 (dLst (dCons (dOp oAdd (dC (.str "scale ")) (dFld "scale" ["Grammar"] (dVarR 0))) (dCons (dOp oAdd (dC (.str "start ")) (dFld "start" ["Grammar"] (dVarR 0))) dNil))))
 (dSeq (dFor (dItA (dFld "rules" ["Grammar"] (dVarR 0))) (dgName 2) (dLmut lmAppend 1 (dCons (dCall p_rule_text (dCons (dVar 2) dNil)) dNil) kNx))
 (dRet (dSM soJoin (dC (.str "\n")) (dCons (dVarR 1) dNil)))))

def t_read_ties (p_is_word : SpM) (p_all_words : SpM) : DTS :=
 (dSeq (dAsg 1 (dC (.str "")))
 (dSeq (dIf (dAndT (dTst (dOp oGt (dCB oLen (dCons (dVarR 0) dNil)) (dC (.int 0)))) (dTst (dOp oEq (dOp oIx (dVarR 0) (dC (.int 0))) (dC (.str "tag"))))) (dSeq (dIf (dOrT (dTst (dOp oLt (dCB oLen (dCons (dVarR 0) dNil)) (dC (.int 2)))) (dNotT (dTru (dCall p_is_word (dCons (dOp oIx (dVarR 0) (dC (.int 1))) dNil))))) (dRaise "NoLine") dNext)
 (dSeq (dAsg 1 (dOp oIx (dVarR 0) (dC (.int 1))))
 (dAsg 0 (dSlS (dVarR 0) (dOSome (dC (.int 2))) dONone)))) dNext)
 (dSeq (dIf (dTst (dOp oEq (dCB oLen (dCons (dVarR 0) dNil)) (dC (.int 0)))) (dRet (dTup (dCons (dVar 1) (dCons (dC .non) dNil)))) dNext)
 (dSeq (dIf (dOrT (dTst (dOp oNe (dOp oIx (dVarR 0) (dC (.int 0))) (dC (.str "under")))) (dOrT (dTst (dOp oLt (dCB oLen (dCons (dVarR 0) dNil)) (dC (.int 2)))) (dNotT (dTru (dCall p_all_words (dCons (dSlS (dVarR 0) (dOSome (dC (.int 1))) dONone) dNil)))))) (dRaise "NoLine") dNext)
 (dRet (dTup (dCons (dVar 1) (dCons (dCB oTuple1 (dCons (dSlS (dVarR 0) (dOSome (dC (.int 1))) dONone) dNil)) dNil))))))))

def t_read_rule (p_is_word : SpM) (p_is_kind : SpM) (p_is_name_k12 : SpM) (p_read_fraction : SpM) (p_read_ties : SpM) (p_Rule_init : SpM) : DTS :=
 (dSeq (dIf (dOrT (dTst (dOp oNe (dOp oIx (dVarR 0) (dC (.int 0))) (dC (.str "rule")))) (dOrT (dTst (dOp oLt (dCB oLen (dCons (dVarR 0) dNil)) (dC (.int 7)))) (dOrT (dTst (dOp oNe (dOp oIx (dVarR 0) (dC (.int 3))) (dC (.str "->")))) (dTst (dOp oNotIn (dC (.str ":")) (dVarR 0)))))) (dRaise "NoLine") dNext)
 (dSeq (dAsg 1 (dLidx (dVarR 0) (dCons (dC (.str ":")) dNil)))
 (dSeq (dAsg 2 (dSlS (dVarR 0) (dOSome (dC (.int 4))) (dOSome (dVarR 1))))
 (dSeq (dIf (dOrT (dNotT (dTru (dCall p_is_word (dCons (dOp oIx (dVarR 0) (dC (.int 1))) dNil)))) (dOrT (dNotT (dTru (dCall p_is_kind (dCons (dOp oIx (dVarR 0) (dC (.int 2))) dNil)))) (dTst (dOp oEq (dCB oLen (dCons (dVarR 0) dNil)) (dOp oAdd (dVarR 1) (dC (.int 1))))))) (dRaise "NoLine") dNext)
 (dSeq (dIf (dOrT (dNotT (dTst (dChain oLe oLe (dC (.int 1)) (dCB oLen (dCons (dVarR 2) dNil)) (dC (.int 4))))) (dNotT (dTru (dCB oAll (dCons (dLstOf (dLc (dItA (dVar 2)) (dgName 5) dYes (dCall p_is_name_k12 (dCons (dVar 5) dNil)) [5])) dNil))))) (dRaise "NoLine") dNext)
 (dSeq (dAsg 3 (dCall p_read_fraction (dCons (dOp oIx (dVarR 0) (dOp oAdd (dVarR 1) (dC (.int 1)))) dNil)))
 (dSeq (dAsg 4 (dCall p_read_ties (dCons (dSlS (dVarR 0) (dOSome (dOp oAdd (dVarR 1) (dC (.int 2)))) dONone) dNil)))
 (dRet (dMake "Rule" [] p_Rule_init (dCons (dOp oIx (dVarR 0) (dC (.int 1))) (dCons (dOp oIx (dVarR 0) (dC (.int 2))) (dCons (dVarR 2) (dCons (dVar 3) (dCons (dOp oIx (dVarR 4) (dC (.int 0))) (dCons (dOp oIx (dVarR 4) (dC (.int 1))) dNil)))))))))))))))

def t_grammar_rows (p_line_words : SpM) (p_is_word : SpM) (p_is_kind : SpM) (p_read_rule : SpM) : DTS :=
 (dSeq (dAsg 1 (dLstOf (dLc (dItA (dVar 0)) (dgName 2) dYes (dCall p_line_words (dCons (dVar 2) dNil)) [2])))
 (dSeq (dIf (dOrT (dTst (dOp oLt (dCB oLen (dCons (dVarR 1) dNil)) (dC (.int 2)))) (dOrT (dTst (dOp oNe (dCB oLen (dCons (dOp oIx (dVarR 1) (dC (.int 0))) dNil)) (dC (.int 2)))) (dTst (dOp oNe (dCB oLen (dCons (dOp oIx (dVarR 1) (dC (.int 1))) dNil)) (dC (.int 2)))))) (dRaise "NoLine") dNext)
 (dSeq (dIf (dOrT (dTst (dOp oNe (dOp oIx (dOp oIx (dVarR 1) (dC (.int 0))) (dC (.int 0))) (dC (.str "scale")))) (dOrT (dNotT (dTru (dCall p_is_word (dCons (dOp oIx (dOp oIx (dVarR 1) (dC (.int 0))) (dC (.int 1))) dNil)))) (dOrT (dTst (dOp oNe (dOp oIx (dOp oIx (dVarR 1) (dC (.int 1))) (dC (.int 0))) (dC (.str "start")))) (dNotT (dTru (dCall p_is_kind (dCons (dOp oIx (dOp oIx (dVarR 1) (dC (.int 1))) (dC (.int 1))) dNil))))))) (dRaise "NoLine") dNext)
 (dRet (dTup (dCons (dOp oIx (dOp oIx (dVarR 1) (dC (.int 0))) (dC (.int 1))) (dCons (dOp oIx (dOp oIx (dVarR 1) (dC (.int 1))) (dC (.int 1))) (dCons (dLstOf (dLc (dItA (dSlS (dVarR 1) (dOSome (dC (.int 2))) dONone)) (dgName 3) dYes (dCall p_read_rule (dCons (dVar 3) dNil)) [3])) dNil))))))))

def t_read_grammar (p_grammar_rows : SpM) (p_left_out : SpM) (p_Grammar_init : SpM) : DTS :=
 (dSeq (dAsg 1 (dCall p_grammar_rows (dCons (dLstOf (dLc (dItA (dSM soSplit (dVarR 0) (dCons (dC (.str "\n")) dNil))) (dgName 2) (dNotT (dTru (dCall p_left_out (dCons (dVar 2) dNil)))) (dVar 2) [2])) dNil)))
 (dRet (dMake "Grammar" [] p_Grammar_init (dCons (dOp oIx (dVarR 1) (dC (.int 0))) (dCons (dOp oIx (dVarR 1) (dC (.int 1))) (dCons (dOp oIx (dVarR 1) (dC (.int 2))) dNil))))))

/-! ### lines of words -/
theorem cs_spc : cs (Str.ofString " ") = [32] := by decide +kernel
theorem cs_nl : cs (Str.ofString "\n") = [10] := by decide +kernel
def joinW (ws : List Str) : Str := Txt.join (Str.ofString " ") ws
def joinN (ws : List Str) : Str := Txt.join (Str.ofString "\n") ws
theorem cs_joinW (ws : List Str) : cs (joinW ws) = TL.joinL [32] (ws.map cs) := by
  unfold joinW
  rw [TL.join_eq]
  have := TL.tl_join (Str.ofString " ") ws
  rw [show TL.tl (Str.ofString " ") = [32] from cs_spc] at this
  exact this
theorem split_joinW {ws : List Str} (h0 : ws ≠ []) (h : ∀ w ∈ ws, 32 ∉ cs w) : Txt.split (joinW ws) (Str.ofString " ") = ws := TL.split_join (s := 32) (S := []) cs_spc (by decide +kernel) h0 h
theorem split_joinN {ws : List Str} (h0 : ws ≠ []) (h : ∀ w ∈ ws, 10 ∉ cs w) : Txt.split (joinN ws) (Str.ofString "\n") = ws := TL.split_join (s := 10) (S := []) cs_nl (by decide +kernel) h0 h
theorem joinL_len (s : Nat) : ∀ ps : List (List Nat), (TL.joinL [s] ps).length ≤ (ps.map fun p => p.length + 1).sum
  | [] => by simp [TL.joinL]
  | [p] => by simp [TL.joinL]
  | p :: q :: r => by
    have := joinL_len s (q :: r)
    show (p ++ ([s] ++ TL.joinL [s] (q :: r))).length ≤ _
    rw [List.length_append, List.length_append, List.map_cons, List.sum_cons]
    simp only [List.length_singleton]
    omega
theorem joinL_mem (s c : Nat) : ∀ ps : List (List Nat), c ∈ TL.joinL [s] ps → c = s ∨ ∃ p ∈ ps, c ∈ p
  | [], h => by cases h
  | [p], h => .inr ⟨p, by simp, h⟩
  | p :: q :: r, h => by
    have h : c ∈ p ++ ([s] ++ TL.joinL [s] (q :: r)) := h
    simp only [List.mem_append, List.mem_singleton] at h
    rcases h with h | h | h
    · exact .inr ⟨p, by simp, h⟩
    · exact .inl h
    · rcases joinL_mem s c (q :: r) h with h | ⟨x, hx, h⟩
      · exact .inl h
      · exact .inr ⟨x, by simp only [List.mem_cons] at hx ⊢; exact .inr hx, h⟩
/-! strip -/
theorem strip_some {x : Str} {c : Nat} {r : List Nat} (h : cs x = c :: r) (hc : c ≠ 32) : Txt.stripChars x (Str.ofString " ") ≠ Str.ofString "" := by
  unfold Txt.stripChars
  rw [PyProof.Rows.stripBy_eq]
  have g : (Str.ofString " ").cps.contains c = false := by
    have e : (Str.ofString " ").cps = #[32] := by decide +kernel
    rw [e]
    simp [hc]
  have hx : x.cps.toList = c :: r := h
  have lo : stripLo ((Str.ofString " ").cps.contains) true x = 0 := by
    unfold stripLo
    rw [if_pos rfl, hx, List.takeWhile_cons, g]
    rfl
  rw [lo]
  obtain ⟨h1, h2, h3, h4⟩ := PyProof.Rows.hi_facts ((Str.ofString " ").cps.contains) x 0 (Nat.zero_le _)
  generalize stripHi ((Str.ofString " ").cps.contains) true x 0 = hi at *
  have hl : 0 < x.length := by rw [len_cs, h]; simp
  have hi0 : hi ≠ 0 := fun z => by
    have := h3 0 (by omega) hl
    rw [← PyProof.Rows.getD_list, hx] at this
    have this : (Str.ofString " ").cps.contains c = true := this
    rw [g] at this
    cases this
  intro e
  have e2 := congrArg cs e
  rw [cs_empty] at e2
  have e3 : (x.cps.extract 0 hi).toList = [] := e2
  have e4 : (x.cps.extract 0 hi).size = 0 := by rw [← Array.length_toList, e3]; rfl
  rw [Array.size_extract] at e4
  have : x.length = x.cps.size := rfl
  omega
theorem strip_blank : ∀ x ∈ [Str.ofString "", Str.ofString " ", Str.ofString "   "], Txt.stripChars x (Str.ofString " ") = Str.ofString "" := by decide +kernel
def sp_left_out : SpD := fun ds Q _ => match ds with
  | [.str x] => sz x ∧ (((∃ c r, cs x = c :: r ∧ c ≠ 32) ∧ Q (.bl false)) ∨ (x ∈ [Str.ofString "", Str.ofString " ", Str.ofString "   "] ∧ Q (.bl true)))
  | _ => False
theorem r_left_out (ds M Q E) (h : pur sp_left_out ds M Q E) : t_left_out (endsOf Q E) (startE [false] 1 ds) M := by
  unfold pur sp_left_out at h
  dsimp only at h
  split at h
  · rename_i x
    obtain ⟨hs, h⟩ := h
    have hz := hs.ok
    rcases h with ⟨⟨c, r, h1, h2⟩, h⟩ | ⟨h1, h⟩
    · have e := strip_some h1 h2
      simp! [t_left_out, soStrip, hz, e]
      exact ⟨by rw [sizeLine_eq] at hz; exact hz, h⟩
    · have e := strip_blank x h1
      simp! [t_left_out, soStrip, hz, e]
      exact ⟨by rw [sizeLine_eq] at hz; exact hz, h⟩
  · exact h.elim
/-- words that may stand in a line -/
def lnW (ws : List Str) : Prop := ws ≠ [] ∧ ws.length ≤ 100 ∧ ∀ w ∈ ws, 32 ∉ cs w ∧ cs w ≠ [] ∧ (cs w).length ≤ 200
def sp_line_words : SpD := fun ds Q _ => match ds with
  | [.str x] => ∃ ws, x = joinW ws ∧ lnW ws ∧ Q (.lst (ws.map .str))
  | _ => False
theorem lnW.len {ws : List Str} (h : lnW ws) : (joinW ws).length ≤ 20100 := by
  rw [len_cs, cs_joinW]
  have h1 := joinL_len 32 (ws.map cs)
  have h2 : ∀ l : List Str, (∀ w ∈ l, (cs w).length ≤ 200) → ((l.map cs).map fun p => p.length + 1).sum ≤ 201 * l.length := fun l => by
    induction l with
    | nil => intro _; simp
    | cons w l ih =>
      intro hl
      have := ih fun v hv => hl v (by simp [hv])
      have := hl w (by simp)
      simp only [List.map_cons, List.sum_cons, List.length_cons]
      omega
  have := h2 ws fun w hw => (h.2.2 w hw).2.2
  have := h.2.1
  omega
theorem r_line_words (ds M Q E) (h : pur sp_line_words ds M Q E) : t_line_words (endsOf Q E) (startE [false] 2 ds) M := by
  unfold pur sp_line_words at h
  dsimp only at h
  split at h
  · obtain ⟨ws, rfl, hw, h⟩ := h
    have hl := hw.len
    have hz : (joinW ws).length + 2 ≤ sizeLine := by rw [sizeLine_eq]; omega
    have hs := split_joinW hw.1 fun w hm => (hw.2.2 w hm).1
    have l1 : ((Str.ofString " ").length == 0) = false := by decide +kernel
    have ne : Str.ofString "" ∉ ws := fun hm => (hw.2.2 _ hm).2.1 cs_empty
    have en : ∀ Q : D → Prop, oIn (.str (Str.ofString "")) (.lst (ws.map .str)) Q = Q (.bl (decide (Str.ofString "" ∈ ws))) := fun Q => in_strs
    simp! [t_line_words, soSplit, hz, hs, l1, en, ne]
    exact ⟨by omega, h⟩
  · exact h.elim
/-! ### rules as lines -/
def tagW (r : Ru) : List Str := if r.tag = "" then [] else [("tag" : Str), r.tag]
def undW (r : Ru) : List Str := match r.under with | none => [] | some us => ("under" : Str) :: us
def lineW (top : Str) (r : Ru) : List Str := ([("rule" : Str), r.title, r.head, ("->" : Str)] ++ r.parts ++ [(":" : Str), top]) ++ tagW r ++ undW r
/-- what is wanted of a rule that is written -/
structure RuT (r : Ru) : Prop where
  ok : RuOk r
  gd : ruGood r = true
  ft : fits 60 r.weight
  l4 : ∀ us, r.under = some us → us.length ≤ 4
def sp_rule_text : SpD := fun ds Q _ => match ds with
  | [x] => ∃ r, x = ruD r ∧ RuT r ∧ Q (.str (joinW (lineW (fracS r.weight) r)))
  | _ => False
def okW (w : Str) : Prop := 32 ∉ cs w ∧ cs w ≠ [] ∧ (cs w).length ≤ 200
theorem name_okW {w : Str} (h : nameB w = true) : okW w := by
  unfold nameB at h
  rw [Bool.and_eq_true, decide_eq_true_eq, List.all_eq_true] at h
  refine ⟨fun hm => ?_, fun e => ?_, by omega⟩
  · have := h.2 32 hm
    revert this
    decide
  · rw [e] at h
    simp at h
theorem word_okW {w : Str} (h : wordB w = true) : okW w := name_okW (word_name h)
theorem int_okL (a : Int) {k : Nat} (hk : 0 < k) (h : a.natAbs < 10 ^ k) : 32 ∉ intL a ∧ intL a ≠ [] ∧ (intL a).length ≤ k + 1 := by
  have hd := TL.numL_free (n := a.natAbs) (s := 32) (by decide)
  have hne := TL.numL_ne a.natAbs
  refine ⟨?_, ?_, intL_len hk h⟩
  · unfold intL
    split
    · simp [hd]
    · exact hd
  · unfold intL
    split
    · simp
    · exact hne
/-- a number over another one, as it is written -/
def overL (a : Int) (b : Nat) : List Nat := if b = 1 then intL a else intL a ++ 47 :: TL.numL b
theorem over_okW {a : Int} {b : Nat} (ha : a.natAbs < 10 ^ 62) (hb : b < 10 ^ 62) : okW (mkS (overL a b)) := by
  obtain ⟨h1, h2, h3⟩ := int_okL a (k := 62) (by decide) ha
  unfold okW
  rw [cs_mkS]
  unfold overL
  have l1 := TL.numL_len (n := b) (k := 62) (by decide) hb
  have l2 := TL.numL_free (n := b) (s := 32) (by decide)
  split
  · exact ⟨h1, h2, by omega⟩
  · refine ⟨fun hm => ?_, by simp, ?_⟩
    · rcases List.mem_append.mp hm with hm | hm
      · exact h1 hm
      · rcases List.mem_cons.mp hm with e | hm
        · cases e
        · exact l2 hm
    · rw [List.length_append, List.length_cons]; omega
theorem frac_over (p : Rat) : fracS p = mkS (overL p.num p.den) := rfl
theorem frac_okW {p : Rat} (h : fits 60 p) : okW (fracS p) := by
  rw [frac_over]
  have h1 := lt_2_10 h.1
  have h2 := lt_2_10 h.2
  exact over_okW (Nat.lt_of_lt_of_le h1 (Nat.pow_le_pow_right (by decide) (by decide))) (Nat.lt_of_lt_of_le h2 (Nat.pow_le_pow_right (by decide) (by decide)))
theorem lit_okW : ∀ w ∈ [Str.ofString "rule", Str.ofString "->", Str.ofString ":", Str.ofString "tag", Str.ofString "under", Str.ofString "scale", Str.ofString "start"], okW w := by
  unfold okW
  decide +kernel
theorem ru_parts {r : Ru} (h : ruGood r = true) : 1 ≤ r.parts.length ∧ r.parts.length ≤ 4 ∧ ∀ p ∈ r.parts, nameB p = true := by
  unfold ruGood at h
  simp only [Bool.and_eq_true] at h
  have h := h.2.2.1
  unfold partsB at h
  rw [Bool.and_eq_true, decide_eq_true_eq, List.all_eq_true] at h
  exact ⟨h.1.1, h.1.2, h.2⟩
theorem RuT.line {r : Ru} (h : RuT r) {top : Str} (ht : okW top) : lnW (lineW top r) := by
  have g := h.gd
  unfold ruGood at g
  simp only [Bool.and_eq_true] at g
  obtain ⟨g1, g2, g3, g4, g5⟩ := g
  obtain ⟨l1, l4, pn⟩ := ru_parts h.gd
  have lt : (tagW r).length ≤ 2 := by unfold tagW; split <;> simp
  have lu : (undW r).length ≤ 5 := by
    unfold undW
    cases hu : r.under with
    | none => simp
    | some us => have := h.l4 us hu; simp; omega
  refine ⟨by unfold lineW; simp, by unfold lineW; simp only [List.length_append, List.length_cons, List.length_nil]; omega, fun w hw => ?_⟩
  show okW w
  unfold lineW at hw
  simp only [List.mem_append, List.mem_cons, List.not_mem_nil, or_false] at hw
  rcases hw with (((((rfl | rfl | rfl | rfl) | hw) | (rfl | rfl)) | hw) | hw)
  · exact lit_okW _ (by simp)
  · exact word_okW g1
  · exact name_okW (kind_name g2)
  · exact lit_okW _ (by simp)
  · exact name_okW (pn w hw)
  · exact lit_okW _ (by simp)
  · exact ht
  · unfold tagW at hw
    split at hw
    · cases hw
    · rename_i z
      simp only [List.mem_cons, List.not_mem_nil, or_false] at hw
      rcases hw with rfl | rfl
      · exact lit_okW _ (by simp)
      · unfold tagB at g4
        rw [Bool.or_eq_true, decide_eq_true_eq] at g4
        exact word_okW (g4.resolve_left z)
  · unfold undW at hw
    cases hu : r.under with
    | none => rw [hu] at hw; cases hw
    | some us =>
      rw [hu] at hw g5
      rcases List.mem_cons.mp hw with rfl | hw
      · exact lit_okW _ (by simp)
      · unfold underB at g5
        simp only [Bool.and_eq_true, List.all_eq_true] at g5
        exact word_okW (g5.2 w hw)
theorem lnW.join {ws : List Str} (h : lnW ws) {Q : D → Prop} (q : Q (.str (joinW ws))) : joinD (Str.ofString " ") (ws.map .str) Q := by
  refine ⟨ws, strsD_map ws, ?_, q⟩
  have h2 : ∀ l : List Str, (∀ w ∈ l, (cs w).length ≤ 200) → (l.map (·.length)).sum ≤ 200 * l.length := fun l => by
    induction l with
    | nil => intro _; simp
    | cons w l ih =>
      intro hl
      have := ih fun v hv => hl v (by simp [hv])
      have h3 := hl w (by simp)
      rw [← len_cs] at h3
      simp only [List.map_cons, List.sum_cons, List.length_cons]
      omega
  have := h2 ws fun w hw => (h.2.2 w hw).2.2
  have l1 : (Str.ofString " ").length = 1 := by decide +kernel
  have := h.2.1
  rw [l1]
  omega
theorem r_rule_text (ds M Q E) (h : pur sp_rule_text ds M Q E) : t_rule_text (pur sp_fraction_text) (endsOf Q E) (startE [false] 2 ds) M := by
  obtain ⟨d, rfl, r, rfl, rt, h⟩ := sp1 h
  have f19 := rt.ft.mono (show 60 ≤ 1900 by decide)
  have hj := (rt.line (frac_okW rt.ft)).join (Q := fun d => Q d M) h
  unfold lineW tagW undW at hj
  obtain ⟨l1, l4, pn⟩ := ru_parts rt.gd
  have okg := rt.ok.g
  have nrm : ∀ {xs ys : List D} {P : D → Prop}, joinD (Str.ofString " ") xs P → xs = ys → joinD (Str.ofString " ") ys P := fun h e => e ▸ h
  by_cases z : r.tag = ""
  · rw [if_pos z] at hj
    cases hu : r.under with
    | none =>
      rw [hu] at hj
      simp! [t_rule_text, drf_ru, fld_title, fld_head, fld_parts, fld_weight, fld_tag, fld_under, e_fraction_text, f19, strT, hu, undD, z, List.length_map]
      exact ⟨by omega, by simp; omega, nrm hj (by simp)⟩
    | some us =>
      have := rt.l4 us hu
      rw [hu] at hj
      simp! [t_rule_text, drf_ru, fld_title, fld_head, fld_parts, fld_weight, fld_tag, fld_under, e_fraction_text, f19, strT, hu, undD, z, List.length_map]
      exact ⟨by omega, by simp; omega, by omega, by simp; omega, nrm hj (by simp)⟩
  · rw [if_neg z] at hj
    cases hu : r.under with
    | none =>
      rw [hu] at hj
      simp! [t_rule_text, drf_ru, fld_title, fld_head, fld_parts, fld_weight, fld_tag, fld_under, e_fraction_text, f19, strT, hu, undD, z, List.length_map]
      exact ⟨by omega, by simp; omega, by simp; omega, nrm hj (by simp)⟩
    | some us =>
      have := rt.l4 us hu
      rw [hu] at hj
      simp! [t_rule_text, drf_ru, fld_title, fld_head, fld_parts, fld_weight, fld_tag, fld_under, e_fraction_text, f19, strT, hu, undD, z, List.length_map]
      exact ⟨by omega, by simp; omega, by simp; omega, by omega, by simp; omega, nrm hj (by simp)⟩
/-! ### grammars as lines -/
def lineS (r : Ru) : Str := joinW (lineW (fracS r.weight) r)
def headL (w k : Str) : List Str := [joinW [("scale" : Str), w], joinW [("start" : Str), k]]
def gramL (w k : Str) (rs : List Ru) : List Str := headL w k ++ rs.map lineS
theorem scale_line (w : Str) : Str.ofString "scale " ++ w = joinW [("scale" : Str), w] := str_ext (by
  rw [cs_app, cs_joinW]
  show _ = cs (Str.ofString "scale") ++ ([32] ++ cs w)
  rw [← List.append_assoc]
  congr 1)
theorem start_line (w : Str) : Str.ofString "start " ++ w = joinW [("start" : Str), w] := str_ext (by
  rw [cs_app, cs_joinW]
  show _ = cs (Str.ofString "start") ++ ([32] ++ cs w)
  rw [← List.append_assoc]
  congr 1)
theorem head_lnW {w : Str} (h : okW w) (h0 : Str) (hm : okW h0) : lnW [h0, w] := ⟨by simp, by simp, fun v hv => by
  simp only [List.mem_cons, List.not_mem_nil, or_false] at hv
  rcases hv with rfl | rfl
  · exact hm
  · exact h⟩
theorem joinN_ok {ls : List Str} (hl : ls.length ≤ 500) (h : ∀ x ∈ ls, x.length ≤ 20100) {Q : D → Prop} (q : Q (.str (joinN ls))) : joinD (Str.ofString "\n") (ls.map .str) Q := by
  refine ⟨ls, strsD_map ls, ?_, q⟩
  have h2 : ∀ l : List Str, (∀ w ∈ l, w.length ≤ 20100) → (l.map (·.length)).sum ≤ 20100 * l.length := fun l => by
    induction l with
    | nil => intro _; simp
    | cons w l ih =>
      intro hl
      have := ih fun v hv => hl v (by simp [hv])
      have h3 := hl w (by simp)
      simp only [List.map_cons, List.sum_cons, List.length_cons]
      omega
  have := h2 ls h
  have l1 : (Str.ofString "\n").length = 1 := by decide +kernel
  rw [l1]
  omega
theorem gramL_len {w k : Str} {rs : List Ru} (hw : okW w) (hk : okW k) (hr : ∀ r ∈ rs, RuT r) : ∀ x ∈ gramL w k rs, ∃ ws, x = joinW ws ∧ lnW ws := fun x hx => by
  unfold gramL headL at hx
  rcases List.mem_append.mp hx with hx | hx
  · simp only [List.mem_cons, List.not_mem_nil, or_false] at hx
    rcases hx with rfl | rfl
    · exact ⟨_, rfl, head_lnW hw _ (lit_okW _ (by simp))⟩
    · exact ⟨_, rfl, head_lnW hk _ (lit_okW _ (by simp))⟩
  · obtain ⟨r, hr', rfl⟩ := List.mem_map.mp hx
    exact ⟨_, rfl, (hr r hr').line (frac_okW (hr r hr').ft)⟩
def sp_grammar_text : SpD := fun ds Q _ => match ds with
  | [g] => ∃ w k rs, g = grD w k rs ∧ rs.length ≤ 100 ∧ okW w ∧ okW k ∧ (∀ r ∈ rs, RuT r) ∧ Q (.str (joinN (gramL w k rs)))
  | _ => False
theorem r_grammar_text (ds M Q E) (h : pur sp_grammar_text ds M Q E) : t_grammar_text (pur sp_rule_text) (endsOf Q E) (startE [false] 3 ds) M := by
  obtain ⟨d, rfl, w, k, rs, rfl, rl, hw, hk, hr, h⟩ := sp1 h
  have ln := gramL_len hw hk hr
  have e1 : Str.ofString "scale " ++ w = joinW [("scale" : Str), w] := scale_line w
  have e2 : Str.ofString "start " ++ k = joinW [("start" : Str), k] := start_line k
  have s1 : (Str.ofString "scale ").length = 6 := by decide +kernel
  have s2 : (Str.ofString "start ").length = 6 := by decide +kernel
  have l1 : w.length ≤ 200 := by rw [len_cs]; exact hw.2.2
  have l2 : k.length ≤ 200 := by rw [len_cs]; exact hk.2.2
  simp! [t_grammar_text, drf_gr, fld_rules, fld_scale, fld_start, s1, s2, e1, e2]
  refine ⟨by omega, by omega, fun i ρ M1 => (∃ e2, ρ = [.dat (grD w k rs), .own ((headL w k ++ (rs.take i).map lineS).map .str), e2]) ∧ M1 = M, ⟨⟨_, rfl⟩, rfl⟩, ?_, ?_⟩
  · rintro i d hd ρ M1 ⟨⟨e2, rfl⟩, rfl⟩
    rw [List.getElem?_map] at hd
    obtain ⟨r, hri, rfl⟩ := Option.map_eq_some_iff.mp hd
    have hi := (List.getElem?_eq_some_iff.mp hri).1
    simp! [dSeq]
    refine ⟨r, rfl, hr r (List.mem_of_getElem? hri), ?_⟩
    exact ⟨by simp [headL]; omega, _, by rw [List.take_add_one, hri]; simp [lineS]; rfl⟩
  · rintro ρ M1 ⟨⟨e2, rfl⟩, rfl⟩
    rw [List.length_map, List.take_length]
    simp! [dSeq]
    exact joinN_ok (by simp [headL]; omega) (fun x hx => by obtain ⟨ws, rfl, hws⟩ := ln x hx; exact hws.len) h
/-! ### lines read -/
theorem cut_1 (x : D) (xs : List D) : cutD (x :: xs) (some 1) none = xs := by
  unfold cutD
  have e1 : HT.sIx (x :: xs).length 0 (some 1) = 1 := by unfold HT.sIx; simp
  have e2 : HT.sIx (x :: xs).length (x :: xs).length none = xs.length + 1 := by unfold HT.sIx; simp
  rw [e1, e2]
  simp
theorem cut_2 (x y : D) (xs : List D) : cutD (x :: y :: xs) (some 2) none = xs := by
  unfold cutD
  have e1 : HT.sIx (x :: y :: xs).length 0 (some 2) = 2 := by unfold HT.sIx; simp
  have e2 : HT.sIx (x :: y :: xs).length (x :: y :: xs).length none = xs.length + 2 := by unfold HT.sIx; simp
  rw [e1, e2]
  simp
def sp_read_ties : SpD := fun ds Q _ => match ds with
  | [.lst ws] => ∃ r, ws = (tagW r ++ undW r).map .str ∧ RuT r ∧ Q (.tup [.str r.tag, undD r.under])
  | _ => False
theorem name_sz {w : Str} (h : nameB w = true) : sz w := by
  unfold nameB at h
  rw [Bool.and_eq_true, decide_eq_true_eq] at h
  have := h.1.2
  unfold sz
  omega
theorem r_read_ties (ds M Q E) (h : pur sp_read_ties ds M Q E) : t_read_ties (pur sp_is_word) (pur sp_all_words) (endsOf Q E) (startE [false] 2 ds) M := by
  unfold pur sp_read_ties at h
  dsimp only at h
  split at h
  · obtain ⟨r, rfl, rt, h⟩ := h
    have g := rt.gd
    unfold ruGood at g
    simp only [Bool.and_eq_true] at g
    obtain ⟨_, _, _, g4, g5⟩ := g
    have gt : r.tag ≠ "" → wordB r.tag = true := fun z => by
      unfold tagB at g4
      rw [Bool.or_eq_true, decide_eq_true_eq] at g4
      exact g4.resolve_left z
    have ut : Str.ofString "under" ≠ Str.ofString "tag" := by decide +kernel
    have au : ∀ us, r.under = some us → 1 ≤ us.length ∧ us.length ≤ 4 ∧ us.all wordB = true ∧ ∀ x ∈ us, okS x := fun us hu => by
      rw [hu] at g5
      unfold underB at g5
      rw [Bool.and_eq_true, decide_eq_true_eq] at g5
      exact ⟨List.length_pos_iff.mpr g5.1, rt.l4 us hu, g5.2, (rt.ok.u us hu).2⟩
    by_cases z : r.tag = ""
    · cases hu : r.under with
      | none =>
        rw [hu, z] at h
        have e : tagW r ++ undW r = [] := by unfold tagW undW; rw [if_pos z, hu]; rfl
        rw [e]
        simp! [t_read_ties]
        exact h
      | some us =>
        obtain ⟨u1, u2, u3, u4⟩ := au us hu
        rw [hu, z] at h
        have e : tagW r ++ undW r = ("under" : Str) :: us := by unfold tagW undW; rw [if_pos z, hu]; rfl
        rw [e]
        simp! [t_read_ties, ut, List.length_map, cut_1]
        rw [if_pos (by omega), if_neg (by omega), if_neg (by omega)]
        refine ⟨us, .inl rfl, by omega, u4, ?_⟩
        rw [u3]
        simp! [dSeq]
        exact h
    · have hw := gt z
      have hz := name_sz (word_name hw)
      cases hu : r.under with
      | none =>
        rw [hu] at h
        have e : tagW r ++ undW r = [("tag" : Str), r.tag] := by unfold tagW undW; rw [if_neg z, hu]; rfl
        rw [e]
        simp! [t_read_ties, List.length_map, cut_2, sp_is_word, hz, hw]
        exact h
      | some us =>
        obtain ⟨u1, u2, u3, u4⟩ := au us hu
        rw [hu] at h
        have e : tagW r ++ undW r = ("tag" : Str) :: r.tag :: ("under" : Str) :: us := by unfold tagW undW; rw [if_neg z, hu]; rfl
        rw [e]
        simp! [t_read_ties, List.length_map, cut_1, cut_2, sp_is_word, hz, hw]
        rw [if_pos (by omega), if_neg (by omega), if_neg (by omega), if_neg (by omega)]
        refine ⟨us, .inl rfl, by omega, u4, ?_⟩
        rw [u3]
        simp! [dSeq]
        exact h
  · exact h.elim
/-- a rule's line with a weight that is written by any text -/
def sp_read_rule : SpM := fun ds M Q _ => match ds with
  | [.lst ws] => ∃ r top, ws = (lineW top r).map .str ∧ RuT r ∧ okW top ∧ readL (cs top) = some r.weight ∧ Q (ruD r) M
  | _ => False
theorem r_read_rule (ds M Q E) (h : sp_read_rule ds M Q E) : t_read_rule (pur sp_is_word) (pur sp_is_kind) (pur sp_is_name) (pur sp_read_fraction) (pur sp_read_ties) sp_Rule_init (endsOf Q E) (startE [false] 6 ds) M := by
  unfold sp_read_rule at h
  split at h
  · obtain ⟨r, top, rfl, rt, ht, hrd, h⟩ := h
    have g := rt.gd
    unfold ruGood at g
    simp only [Bool.and_eq_true] at g
    obtain ⟨g1, g2, g3, g4, g5⟩ := g
    obtain ⟨l1, l4, pn⟩ := ru_parts rt.gd
    have hz1 := name_sz (word_name g1)
    have hz2 := name_sz (kind_name g2)
    have hzt : sz top := by have := ht.2.2; unfold sz; omega
    have hlen : (lineW top r).length = 6 + r.parts.length + (tagW r).length + (undW r).length := by unfold lineW; simp; omega
    have ix : ∀ {n : Nat} {w : Str}, (lineW top r)[n]? = some w → ∀ Q : D → Prop, oIx (.lst ((lineW top r).map .str)) (.int (n : Int)) Q = Q (.str w) := fun hw Q => ix_nat hw
    have i0 : ∀ Q : D → Prop, oIx (.lst ((lineW top r).map .str)) (.int 0) Q = Q (.str (Str.ofString "rule")) := ix (n := 0) (by unfold lineW; rfl)
    have i1 : ∀ Q : D → Prop, oIx (.lst ((lineW top r).map .str)) (.int 1) Q = Q (.str r.title) := ix (n := 1) (by unfold lineW; rfl)
    have i2 : ∀ Q : D → Prop, oIx (.lst ((lineW top r).map .str)) (.int 2) Q = Q (.str r.head) := ix (n := 2) (by unfold lineW; rfl)
    have i3 : ∀ Q : D → Prop, oIx (.lst ((lineW top r).map .str)) (.int 3) Q = Q (.str (Str.ofString "->")) := ix (n := 3) (by unfold lineW; rfl)
    have es : lineW top r = [Str.ofString "rule", r.title, r.head, Str.ofString "->"] ++ (r.parts ++ (Str.ofString ":" :: top :: (tagW r ++ undW r))) := by unfold lineW; simp
    have hcol : (lineW top r)[4 + r.parts.length]? = some (Str.ofString ":") := by
      rw [es, List.getElem?_append_right (by simp), List.getElem?_append_right (by simp)]
      simp
    have htop : (lineW top r)[4 + r.parts.length + 1]? = some top := by
      rw [es, List.getElem?_append_right (by simp; omega), List.getElem?_append_right (by simp; omega), show 4 + r.parts.length + 1 - ([Str.ofString "rule", r.title, r.head, Str.ofString "->"] : List Str).length - r.parts.length = 1 by simp; omega]
      rfl
    have ecut1 : cutD ((lineW top r).map .str) (some 4) (some ((4 + r.parts.length : Nat) : Int)) = r.parts.map .str := by
      rw [cut_map, show (4 : Int) = ((4 : Nat) : Int) from rfl, HT.sIx_nat, HT.sIx_nat, Nat.min_eq_left (by omega), Nat.min_eq_left (by omega), es]
      congr 1
      rw [show 4 + r.parts.length - 4 = r.parts.length by omega]
      simp
    have ecut2 : cutD ((lineW top r).map .str) (some (((4 + r.parts.length : Nat) : Int) + 2)) none = (tagW r ++ undW r).map .str := by
      rw [cut_map, show ((4 + r.parts.length : Nat) : Int) + 2 = ((4 + r.parts.length + 2 : Nat) : Int) by omega, HT.sIx_nat, HT.sIx_none, Nat.min_eq_left (by omega), List.take_of_length_le (by rw [List.length_drop]; omega), es]
      congr 1
      rw [show 4 + r.parts.length + 2 = 4 + (r.parts.length + 2) by omega, ← List.drop_drop]
      show List.drop (r.parts.length + 2) (r.parts ++ (Str.ofString ":" :: top :: (tagW r ++ undW r))) = _
      rw [← List.drop_drop]
      simp
    have ncol : ∀ w, nameB w = true → w ≠ Str.ofString ":" := fun w hw e => by
      rw [e] at hw
      revert hw
      decide +kernel
    have hfst : ∀ k, k < 4 + r.parts.length → (lineW top r)[k]? ≠ some (Str.ofString ":") := fun k hk e => by
      rw [es] at e
      by_cases z : k < 4
      · rw [List.getElem?_append_left (by simpa using z)] at e
        have hm := List.mem_of_getElem? e
        simp only [List.mem_cons, List.not_mem_nil, or_false] at hm
        rcases hm with hm | hm | hm | hm
        · exact absurd hm (by decide +kernel)
        · exact ncol _ (word_name g1) hm.symm
        · exact ncol _ (kind_name g2) hm.symm
        · exact absurd hm (by decide +kernel)
      · rw [List.getElem?_append_right (by simp; omega), List.getElem?_append_left (by simp; omega)] at e
        exact ncol _ (pn _ (List.mem_of_getElem? e)) rfl
    have ecol : ∀ Q : D → Prop, oNotIn (.str (Str.ofString ":")) (.lst ((lineW top r).map .str)) Q = Q (.bl false) := fun Q => by
      have hm := List.mem_of_getElem? hcol
      have e := in_strs (x := Str.ofString ":") (hs := lineW top r) (Q := fun d => match d with | .bl b => Q (.bl (!b)) | d => Q d)
      rw [decide_eq_true hm] at e
      exact e
    simp! [t_read_rule, List.length_map, i0, i1, i2, i3, ecol, sp_is_word, sp_is_kind, hz1, hz2, g1, g2]
    rw [if_neg (by omega)]
    refine ⟨lineW top r, 4 + r.parts.length, rfl, hcol, hfst, ?_⟩
    rw [ecut1, if_neg (by omega), List.length_map, if_pos (by omega), if_pos (by omega)]
    refine lc_bools nameB (by omega) (fun x hx K hK => ?_) ?_
    · simp! [sp_is_name, name_sz (pn x hx)]
      exact hK
    have eall : r.parts.all nameB = true := List.all_eq_true.mpr pn
    have itop : ∀ Q : D → Prop, oIx (.lst ((lineW top r).map .str)) (.int (((4 + r.parts.length : Nat) : Int) + 1)) Q = Q (.str top) := fun Q => by
      have e := ix htop Q
      rw [show (((4 + r.parts.length + 1 : Nat) : Nat) : Int) = ((4 + r.parts.length : Nat) : Int) + 1 by omega] at e
      exact e
    simp! [oAll_bls, eall, itop]
    refine ⟨hzt, ?_⟩
    rw [hrd]
    dsimp only
    rw [ecut2]
    refine ⟨r, rfl, rt, ?_⟩
    show oIx (.tup [.str r.tag, undD r.under]) (.int 0) _
    rw [oIx_t0]
    show oIx (.tup [.str r.tag, undD r.under]) (.int 1) _
    rw [oIx_t1]
    intro x hx
    refine ⟨upd_at, r, rfl, rfl, .inl rfl, rfl, rfl, ?_, rt.ok, ?_⟩
    · cases r.under with
      | none => rfl
      | some us => exact .inr rfl
    · rw [if_pos rt.gd, upd_updM]
      refine ⟨rfl, _, upd_at, ?_⟩
      rw [del_up hx]
      exact h
  · exact h.elim
/-- rules with the texts of their weights -/
def PsOk (ps : List (Ru × Str)) : Prop := ps.length ≤ 100 ∧ ∀ p ∈ ps, RuT p.1 ∧ okW p.2 ∧ readL (cs p.2) = some p.1.weight
def wssL (w k : Str) (ps : List (Ru × Str)) : List (List Str) := [("scale" : Str), w] :: [("start" : Str), k] :: ps.map fun p => lineW p.2 p.1
theorem wssL_ok {w k : Str} {ps : List (Ru × Str)} (hw : okW w) (hk : okW k) (hp : PsOk ps) : ∀ ws ∈ wssL w k ps, lnW ws := fun ws h => by
  unfold wssL at h
  rcases List.mem_cons.mp h with rfl | h
  · exact head_lnW hw _ (lit_okW _ (by simp))
  rcases List.mem_cons.mp h with rfl | h
  · exact head_lnW hk _ (lit_okW _ (by simp))
  · obtain ⟨p, hm, rfl⟩ := List.mem_map.mp h
    obtain ⟨h1, h2, _⟩ := hp.2 p hm
    exact h1.line h2
def wsD (ws : List Str) : D := .lst (ws.map .str)
def sp_grammar_rows : SpM := fun ds M Q _ => match ds with
  | [.lst ls] => ∃ w k ps, ls = ((wssL w k ps).map joinW).map .str ∧ wordB w = true ∧ kindB k = true ∧ PsOk ps ∧ Q (.tup [.str w, .str k, .lst (ps.map fun p => ruD p.1)]) M
  | _ => False
theorem r_grammar_rows (ds M Q E) (h : sp_grammar_rows ds M Q E) : t_grammar_rows (pur sp_line_words) (pur sp_is_word) (pur sp_is_kind) sp_read_rule (endsOf Q E) (startE [false] 4 ds) M := by
  unfold sp_grammar_rows at h
  split at h
  · obtain ⟨w, k, ps, rfl, hw, hk, hp, h⟩ := h
    have ok := wssL_ok (word_okW hw) (name_okW (kind_name hk)) hp
    have hl : (wssL w k ps).length = ps.length + 2 := by unfold wssL; simp
    have p1 := hp.1
    have hzw := name_sz (word_name hw)
    have hzk := name_sz (kind_name hk)
    rw [List.map_map]
    simp! [t_grammar_rows]
    refine lc_of (g := fun ws => D.str (joinW ws)) (f := wsD) (by omega) (fun ws hm K N hK => ?_) ?_
    · simp! [dSeq]
      exact ⟨ws, rfl, ok ws hm, hK⟩
    have e0 : (wssL w k ps).map wsD = wsD [("scale" : Str), w] :: wsD [("start" : Str), k] :: (ps.map fun p => wsD (lineW p.2 p.1)) := by unfold wssL; simp
    rw [e0]
    simp! [wsD, cut_2, hw, hk, hzw, hzk, sp_is_word, sp_is_kind, List.length_map]
    rw [if_neg (by omega)]
    refine lc_of (g := fun p : Ru × Str => D.lst ((lineW p.2 p.1).map .str)) (f := fun p => ruD p.1) (by omega) (fun p hm K N hK => ?_) h
    obtain ⟨h1, h2, h3⟩ := hp.2 p hm
    simp! [dSeq]
    exact ⟨p.1, p.2, rfl, h1, h2, h3, hK⟩
  · exact h.elim
/-! a grammar's text -/
def blankB (x : Str) : Bool := decide (x ∈ [Str.ofString "", Str.ofString " ", Str.ofString "   "])
def lnOk (x : Str) : Prop := sz x ∧ 10 ∉ cs x ∧ (blankB x = true ∨ ∃ c r, cs x = c :: r ∧ c ≠ 32)
def sp_read_grammar : SpM := fun ds M Q _ => match ds with
  | [.str x] => ∃ (ls : List Str) (w k : Str) (ps : List (Ru × Str)), x = joinN ls ∧ ls ≠ [] ∧ ls.length ≤ 400 ∧ x.length ≤ 16000000 ∧ (∀ l ∈ ls, lnOk l) ∧ ls.filter (fun l => !blankB l) = (wssL w k ps).map joinW ∧ wordB w = true ∧ kindB k = true ∧ PsOk ps ∧ rsOk (ps.map (·.1)) ∧ (∀ o, GramIs w k (ps.map (·.1)) o → o = none) ∧ Q (grD w k (ps.map (·.1))) M
  | _ => False
theorem r_read_grammar (ds M Q E) (h : sp_read_grammar ds M Q E) : t_read_grammar sp_grammar_rows (pur sp_left_out) sp_Grammar_init (endsOf Q E) (startE [false] 3 ds) M := by
  unfold sp_read_grammar at h
  split at h
  · obtain ⟨ls, w, k, ps, rfl, l0, l4, lx, lo, hf, hw, hk, hp, ok, hg, h⟩ := h
    have hs := split_joinN l0 fun l hl => (lo l hl).2.1
    have l1 : ((Str.ofString "\n").length == 0) = false := by decide +kernel
    simp! [t_read_grammar, soSplit, hs, l1]
    refine ⟨by omega, ?_⟩
    refine lc_sel (g := D.str) (f := D.str) (fun l => !blankB l) (by omega) (fun l hl K N hK hN => ?_) ?_
    · obtain ⟨h1, _, h3⟩ := lo l hl
      simp! [dSeq]
      refine ⟨h1, ?_⟩
      by_cases z : blankB l = true
      · refine .inr ⟨of_decide_eq_true z, ?_⟩
        simp! [dSeq]
        exact hN (by rw [z]; rfl)
      · have z : blankB l = false := by simpa using z
        refine .inl ⟨h3.resolve_left (by rw [z]; decide), ?_⟩
        simp! [dSeq]
        exact hK (by rw [z]; rfl)
    rw [hf]
    refine ⟨w, k, ps, rfl, hw, hk, hp, ?_⟩
    simp! [dSeq]
    intro x hx
    refine ⟨upd_at, ps.map (·.1), by simp, ok, fun o ho => ?_⟩
    rw [hg o ho]
    refine ⟨rfl, _, upd_at, ?_⟩
    rw [upd_updM, del_up hx]
    exact h
  · exact h.elim

end Z

namespace Z
open PySem L2
local macro_rules | `(tactic| simp! [$xs,*]) => `(tactic| simp only [$xs,*, ↓dSeq, ↓dAsg, ↓dOp, ↓dVar, ↓dVarR, ↓dC, ↓dCall, ↓dCons, ↓dNil, ↓dIf, ↓dRet, ↓dRetN, ↓dTup, ↓dTst, ↓dNeg, ↓dNext, ↓dCB, ↓dLstOf, ↓dLst, ↓dCat, ↓dSlL, ↓dSlS, ↓dONone, ↓dOSome, ↓dList1, ↓dChain, ↓dChain3, ↓dAndT, ↓dOrT, ↓dNotT, ↓dAndV, ↓dOrV, ↓dNotV, ↓dIfE, ↓dTru, ↓dOwn, ↓dAsgG, ↓dPar, ↓dDrop, ↓dAugI, ↓dBreak, ↓dCont, ↓dgName, ↓dgNil, ↓dgCons, ↓dgTup, ↓dFrz, ↓frzE, ↓dItA, ↓dItB, ↓dRng1, ↓dRng2, ↓dEnum, ↓dFor, ↓dSM, ↓dSM0, ↓dRepN, ↓dLc, ↓dYes, ↓wipeE, ↓dStore, ↓dLmut, ↓lmPre, ↓lmAt, ↓isLst, ↓kNx, ↓kSet, ↓lmAppend, ↓lmExtend, ↓lmPop, ↓lmPopAt, ↓lmClear, ↓lmInsert, ↓lmSet, ↓dAugL, ↓dAugS, ↓lmAugS, ↓dMake, ↓dMake0, ↓dMeth, ↓dFld, ↓dSetF, ↓dTry, ↓dTryM, ↓exM, ↓dRaise, ↓endsOf, ↓startE, ↓entOf, ↓ga, ↓pur, ↓dDnew, ↓dDput, ↓dDget, ↓dDsetd, ↓dLmX, ↓dFrzM, ↓dZip, ↓dZipM, ↓dListRev, ↓oListRev, ↓dOrG, ↓dLstM, ↓onDic, ↓onDicR, ↓onLst, ↓obD, ↓dVarP, ↓dItC, ↓onIns, ↓endsW, ↓dLidx, ↓isLD, ↓oIdx, ↓dTake, ↓dLendT, ↓dLendE, ↓lendE, ↓lend1, ↓dFzv, ↓fzv, ↓dStoreX, ↓dLidxD, ↓dGive, ↓dZip3, ↓dListD, ↓drf_int, ↓drf_str, ↓drf_bl, ↓drf_non, ↓drf_lst, ↓drf_tup, ↓drf_obj, ↓drf_dic, ↓drf_cls, ↓drf_exc, ↓drf_ty, ↓drf_ref, ↓drfO_dic, ↓drfO_lst, ↓drfO_ins, ↓drfO_non, ↓oLen_d, ↓oIn_d, ↓oNotIn_d, ↓oIn_dt, ↓oNotIn_dt, ↓kOkB_s, ↓kOkB_i, ↓oAdd_i, ↓oAdd_s, ↓oAdd_t, ↓oAdd_l, ↓oSub_i, ↓oMul_i, ↓oMulW_i, ↓oMulA_i, ↓oMulA_s, ↓oFdiv_i, ↓oMod_i, ↓oPow_i, ↓oLt_i, ↓oLtA_i, ↓oLe_i, ↓oGt_i, ↓oGe_i, ↓oEq_i, ↓oEq_s, ↓oEq_b, ↓oEq_nn, ↓oEq_ni, ↓oEq_in, ↓oEq_ns, ↓oEq_sn, ↓oNe_i, ↓oNe_s, ↓oNe_b, ↓oNe_nn, ↓oNe_ni, ↓oNe_in, ↓oNe_ns, ↓oNe_sn, ↓oIsN_, ↓oNotN_, ↓isNon_int, ↓isNon_str, ↓isNon_bl, ↓isNon_non, ↓isNon_lst, ↓isNon_tup, ↓isNon_obj, ↓isNon_exc, ↓isNon_dic, ↓oLen_s, ↓oLen_l, ↓oLen_t, ↓oAbs_, ↓oMax2_, ↓oMin2_, ↓oMinT_, ↓oMaxT_, ↓oInt1_i, ↓oInt1_b, ↓oInt1_s, ↓oStr1_, ↓oTuple1_l, ↓oTuple1_t, ↓oList1_l, ↓oList1_t, ↓oListD_d, ↓oCat_l, ↓truD_n, ↓truD_b, ↓truD_i, ↓truD_s, ↓truD_l, ↓truD_t, ↓onStr_s, ↓soStarts_, ↓soUpper_, ↓soLower_, ↓soIsupper_, ↓soFind_, ↓soStrip_, ↓soPart_, ↓soSplit_, ↓soJoin_l, ↓soJoin_t, ↓oSlL_l, ↓oSlS_l, ↓oSlS_t, ↓oSlS_s, ↓isi_int_int, ↓isi_int_str, ↓isi_int_bool, ↓isi_int_NoneType, ↓isi_int_list, ↓isi_int_tuple, ↓isi_bool_int, ↓isi_bool_str, ↓isi_bool_bool, ↓isi_bool_NoneType, ↓isi_bool_list, ↓isi_bool_tuple, ↓isi_tuple_int, ↓isi_tuple_str, ↓isi_tuple_bool, ↓isi_tuple_NoneType, ↓isi_tuple_list, ↓isi_tuple_tuple, ↓isi_str_int, ↓isi_str_str, ↓isi_str_bool, ↓isi_str_NoneType, ↓isi_str_list, ↓isi_str_tuple, ↓isi_list_int, ↓isi_list_str, ↓isi_list_bool, ↓isi_list_NoneType, ↓isi_list_list, ↓isi_list_tuple, ↓oIx_t0, ↓oIx_l0, ↓oIx_t1, ↓oIx_l1, ↓oIx_t2, ↓oIx_l2, ↓oIx_t3, ↓oIx_l3, ↓oIx_t4, ↓oIx_l4, ↓oIx_t5, ↓oIx_l5, ↓oIx_f0, ↓oIx_f1, ↓drf_fD, ↓oLen_f, ↓isi_tuple_f, ↓isi_int_f, ↓eq_fD, ↓ne_fD, ofS_inj, mem_ofS, mem_ofS0, putD_nil, putD_cons, updM_same, String.reduceEq, Nat.reduceLT, true_or, or_true, false_or, or_false, true_and, and_true, false_and, and_false, List.set_cons_zero, List.set_cons_succ, List.map_cons, List.map_nil, if_true, if_false, Bool.false_eq_true, decide_eq_true_eq, List.length_cons, List.length_nil, Int.reduceNe, Int.reduceLT, Int.reduceLE, Int.reduceEq, Int.reduceToNat, Int.reducePow, Int.reduceNeg, Int.reduceAdd, Int.reduceMul, Int.reduceSub, Nat.reduceAdd, Nat.reduceLeDiff, Nat.reduceEqDiff, Int.cast_ofNat_Int, Bool.true_eq_false, ite_not, sizeLine_eq, true_and, and_true, and_self, Int.fmod_eq_emod_of_nonneg, Int.fdiv_eq_ediv_of_nonneg, Bool.not_true, Bool.not_false, Bool.not_eq_true', decide_eq_false_iff_not, decide_true, decide_false])
def t_l_line : DTS :=
 (dSeq (dAsg 2 (dCB oStr1 (dCons (dOp oMulA (dOp oIx (dOp oIx (dVarR 0) (dC (.int 3))) (dC (.int 0))) (dVarR 1)) dNil)))
 (dCut (dIf (dOrT (dTst (dOp oGt (dVarR 1) (dC (.int 1)))) (dTst (dOp oGt (dOp oIx (dOp oIx (dVarR 0) (dC (.int 3))) (dC (.int 1))) (dC (.int 1))))) (dAsg 2 (dOp oAdd (dOp oAdd (dVarR 2) (dC (.str "/"))) (dCB oStr1 (dCons (dOp oMulA (dOp oIx (dOp oIx (dVarR 0) (dC (.int 3))) (dC (.int 1))) (dVarR 1)) dNil)))) dNext)
 (dSeq (dAsg 3 (dOp oAdd (dOp oAdd (dOp oAdd (dOp oAdd (dOp oAdd (dOp oAdd (dOp oAdd (dC (.str "rule ")) (dOp oIx (dVarR 0) (dC (.int 0)))) (dC (.str " "))) (dOp oIx (dVarR 0) (dC (.int 1)))) (dC (.str " -> "))) (dSM soJoin (dC (.str " ")) (dCons (dOp oIx (dVarR 0) (dC (.int 2))) dNil))) (dC (.str " : "))) (dVarR 2)))
 (dCut (dIf (dTst (dOp oNe (dOp oIx (dVarR 0) (dC (.int 4))) (dC (.str "")))) (dAsg 3 (dOp oAdd (dOp oAdd (dVarR 3) (dC (.str " tag "))) (dOp oIx (dVarR 0) (dC (.int 4))))) dNext)
 (dCut (dIf (dTst (dOp oNotN (dOp oIx (dVarR 0) (dC (.int 5))) (dC .non))) (dAsg 3 (dOp oAdd (dOp oAdd (dVarR 3) (dC (.str " under "))) (dSM soJoin (dC (.str " ")) (dCons (dOp oIx (dVarR 0) (dC (.int 5))) dNil)))) dNext)
 (dRet (dVar 3)))))))

/-! ### the law's own line -/
def topS (p : Rat) (b : Int) : Str := mkS (if 1 < b ∨ 1 < p.den then intL (p.num * b) ++ 47 :: TL.numL ((p.den : Int) * b).toNat else intL (p.num * b))
theorem topS_1 {p : Rat} {b : Int} (hb : 0 ≤ b) (h : 1 < b ∨ 1 < p.den) : topS p b = Str.ofString (toString (p.num * b)) ++ Str.ofString "/" ++ Str.ofString (toString ((p.den : Int) * b)) := str_ext (by
  unfold topS
  rw [if_pos h, cs_mkS, cs_app, cs_app, cs_slash, cs_int, cs_int, List.append_assoc]
  have hn : 0 ≤ (p.den : Int) * b := Int.mul_nonneg (by omega) hb
  have e : intL ((p.den : Int) * b) = TL.numL ((p.den : Int) * b).toNat := by
    unfold intL
    rw [if_neg (by omega)]
    congr 1
    omega
  rw [e]; rfl)
theorem topS_0 {p : Rat} {b : Int} (h : ¬ (1 < b ∨ 1 < p.den)) : topS p b = Str.ofString (toString (p.num * b)) := str_ext (by
  unfold topS
  rw [if_neg h, cs_mkS, cs_int])
theorem joinL_app (s : Nat) : ∀ (ps qs : List (List Nat)), ps ≠ [] → qs ≠ [] → TL.joinL [s] (ps ++ qs) = TL.joinL [s] ps ++ s :: TL.joinL [s] qs
  | [], _, h, _ => absurd rfl h
  | [p], q :: qs, _, _ => rfl
  | [p], [], _, h => absurd rfl h
  | p :: p' :: ps, qs, _, h => by
    have := joinL_app s (p' :: ps) qs (by simp) h
    show p ++ ([s] ++ TL.joinL [s] ((p' :: ps) ++ qs)) = (p ++ ([s] ++ TL.joinL [s] (p' :: ps))) ++ s :: TL.joinL [s] qs
    rw [this]
    simp
theorem cs_base (a b top : Str) {ps : List Str} (h : ps ≠ []) : cs (joinW ([Str.ofString "rule", a, b, Str.ofString "->"] ++ ps ++ [Str.ofString ":", top])) = cs (Str.ofString "rule") ++ 32 :: (cs a ++ 32 :: (cs b ++ 32 :: (cs (Str.ofString "->") ++ 32 :: (cs (joinW ps) ++ 32 :: (cs (Str.ofString ":") ++ 32 :: cs top))))) := by
  have hp : ps.map cs ≠ [] := fun e => h (List.map_eq_nil_iff.mp e)
  rw [cs_joinW, cs_joinW, List.map_append, List.map_append, List.append_assoc, joinL_app 32 _ _ (by simp) (by simp), joinL_app 32 _ _ hp (by simp)]
  simp [TL.joinL]
theorem joinW_app {as bs : List Str} (ha : as ≠ []) (hb : bs ≠ []) : cs (joinW (as ++ bs)) = cs (joinW as) ++ 32 :: cs (joinW bs) := by
  rw [cs_joinW, cs_joinW, cs_joinW, List.map_append, joinL_app 32 _ _ (fun e => ha (List.map_eq_nil_iff.mp e)) (fun e => hb (List.map_eq_nil_iff.mp e))]
def sp_l_line : SpD := fun ds Q _ => match ds with
  | [row, .int b] => ∃ r, row = roD r ∧ RuT r ∧ 1 ≤ b ∧ b ≤ 9 ∧ Q (.str (joinW (lineW (topS r.weight b) r)))
  | _ => False
theorem r_l_line (ds M Q E) (h : pur sp_l_line ds M Q E) : t_l_line (endsOf Q E) (startE [false, false] 4 ds) M := by
  unfold pur sp_l_line at h
  dsimp only at h
  split at h
  · rename_i row b
    obtain ⟨r, rfl, rt, b1, b9, h⟩ := h
    have e3 : ∀ Q : D → Prop, oIx (roD r) (.int 3) Q = Q (fD r.weight) := fun Q => oIx_t3
    have e0 : ∀ Q : D → Prop, oIx (roD r) (.int 0) Q = Q (.str r.title) := fun Q => oIx_t0
    have e1 : ∀ Q : D → Prop, oIx (roD r) (.int 1) Q = Q (.str r.head) := fun Q => oIx_t1
    have e2 : ∀ Q : D → Prop, oIx (roD r) (.int 2) Q = Q (.lst (r.parts.map .str)) := fun Q => oIx_t2
    have e4 : ∀ Q : D → Prop, oIx (roD r) (.int 4) Q = Q (.str r.tag) := fun Q => oIx_t4
    have e5 : ∀ Q : D → Prop, oIx (roD r) (.int 5) Q = Q (undL r.under) := fun Q => oIx_t5
    have er : ∀ M, drf M (roD r) = roD r := fun _ => rfl
    have sn := rt.ft.num (by decide)
    have sd := rt.ft.den (by decide)
    have sb : Sm b := sm_lit (by omega) (by omega)
    have nb : (r.weight.num * b).natAbs < 2 ^ 64 := by
      have h1 := rt.ft.1
      rw [Int.natAbs_mul]
      have : r.weight.num.natAbs * b.natAbs ≤ 2 ^ 60 * 9 := Nat.mul_le_mul (by omega) (by omega)
      omega
    have db : ((r.weight.den : Int) * b).natAbs < 2 ^ 64 := by
      have h1 := rt.ft.2
      rw [Int.natAbs_mul]
      have : (r.weight.den : Int).natAbs * b.natAbs ≤ 2 ^ 60 * 9 := Nat.mul_le_mul (by omega) (by omega)
      omega
    have n2 := PySem.Flt.log2_lt_of (k := 64) (by decide) nb
    have d2 := PySem.Flt.log2_lt_of (k := 64) (by decide) db
    have up : ∀ {n : Nat}, n < 2 ^ 64 → n < 2 ^ 1900 := fun h => Nat.lt_of_lt_of_le h (Nat.pow_le_pow_right (by decide) (by decide))
    have ln := str_len (up nb)
    have ld := str_len (up db)
    have sl : (Str.ofString "/").length = 1 := by decide +kernel
    simp! [t_l_line, er, e3, fD]
    refine ⟨sn, sb, by omega, ?_⟩
    refine ⟨fun ρ M1 => ρ = [.dat (roD r), .dat (.int b), .dat (.str (topS r.weight b)), .un] ∧ M1 = M, ?_, ?_⟩
    · simp! [er, e3, fD, app_len, sl]
      by_cases z : 1 < b
      · rw [if_pos z]
        refine ⟨by omega, sd, sb, by omega, by omega, ?_⟩
        rw [topS_1 (by omega) (.inl z)]
      · rw [if_neg z]
        by_cases z2 : 1 < r.weight.den
        · rw [if_pos (by omega)]
          refine ⟨by omega, sd, sb, by omega, by omega, ?_⟩
          rw [topS_1 (by omega) (.inr z2)]
        · rw [if_neg (by omega), topS_0 (by omega)]
    · rintro ρ M1 ⟨rfl, rfl⟩
      have l12 : ∀ {w : Str}, nameB w = true → w.length ≤ 12 := fun {w} hw => by
        rw [len_cs]
        unfold nameB at hw
        rw [Bool.and_eq_true, decide_eq_true_eq] at hw
        exact hw.1.2
      have g := rt.gd
      unfold ruGood at g
      simp only [Bool.and_eq_true] at g
      obtain ⟨g1, g2, g3, g4, g5⟩ := g
      obtain ⟨p1, p4, pn⟩ := ru_parts rt.gd
      have lt := l12 (word_name g1)
      have lh := l12 (kind_name g2)
      have lp : lnW r.parts := ⟨fun e => by rw [e] at p1; simp at p1, by omega, fun w hw => name_okW (pn w hw)⟩
      have lj := lp.len
      have ltop : (topS r.weight b).length ≤ 3900 := by
        by_cases z : 1 < b ∨ 1 < r.weight.den
        · rw [topS_1 (by omega) z, app_len, app_len, sl]; omega
        · rw [topS_0 z]; omega
      have q1 : (Str.ofString "rule ").length = 5 := by decide +kernel
      have q2 : (Str.ofString " ").length = 1 := by decide +kernel
      have q3 : (Str.ofString " -> ").length = 4 := by decide +kernel
      have q4 : (Str.ofString " : ").length = 3 := by decide +kernel
      simp! [er, e0, e1, e2, app_len, q1, q2, q3]
      refine ⟨by omega, by omega, by omega, by omega, lp.join ?_⟩
      simp! [app_len, q1, q2, q3, q4]
      refine ⟨by omega, by omega, by omega, ?_⟩
      have c1 : cs (Str.ofString "rule ") = cs (Str.ofString "rule") ++ [32] := by decide +kernel
      have c3 : cs (Str.ofString " -> ") = 32 :: (cs (Str.ofString "->") ++ [32]) := by decide +kernel
      have c4 : cs (Str.ofString " : ") = 32 :: (cs (Str.ofString ":") ++ [32]) := by decide +kernel
      have eb : Str.ofString "rule " ++ r.title ++ Str.ofString " " ++ r.head ++ Str.ofString " -> " ++ joinW r.parts ++ Str.ofString " : " ++ topS r.weight b = joinW ([Str.ofString "rule", r.title, r.head, Str.ofString "->"] ++ r.parts ++ [Str.ofString ":", topS r.weight b]) := str_ext (by
        rw [cs_base _ _ _ lp.1]
        simp only [cs_app, c1, c3, c4, cs_spc]
        simp)
      rw [eb]
      have hb : (joinW ([Str.ofString "rule", r.title, r.head, Str.ofString "->"] ++ r.parts ++ [Str.ofString ":", topS r.weight b])).length ≤ 24200 := by
        rw [← eb]
        simp only [app_len, q1, q2, q3, q4]
        omega
      have q5 : (Str.ofString " tag ").length = 5 := by decide +kernel
      have q6 : (Str.ofString " under ").length = 7 := by decide +kernel
      have c5 : cs (Str.ofString " tag ") = 32 :: (cs (Str.ofString "tag") ++ [32]) := by decide +kernel
      have c6 : cs (Str.ofString " under ") = 32 :: (cs (Str.ofString "under") ++ [32]) := by decide +kernel
      have hne : [Str.ofString "rule", r.title, r.head, Str.ofString "->"] ++ r.parts ++ [Str.ofString ":", topS r.weight b] ≠ [] := by simp
      generalize hB : [Str.ofString "rule", r.title, r.head, Str.ofString "->"] ++ r.parts ++ [Str.ofString ":", topS r.weight b] = B at hb hne ⊢
      have hl : lineW (topS r.weight b) r = B ++ tagW r ++ undW r := by rw [← hB]; rfl
      rw [hl] at h
      refine ⟨fun ρ M2 => ρ = [.dat (roD r), .dat (.int b), .dat (.str (topS r.weight b)), .dat (.str (joinW (B ++ tagW r)))] ∧ M2 = M1, ?_, ?_⟩
      · simp! [er, e4, app_len, q5]
        by_cases z : r.tag = ""
        · rw [if_pos z]
          unfold tagW
          rw [if_pos z, List.append_nil]
        · have l4 : r.tag.length ≤ 12 := by
            unfold tagB at g4
            rw [Bool.or_eq_true, decide_eq_true_eq] at g4
            exact l12 (word_name (g4.resolve_left z))
          rw [if_neg z]
          refine ⟨by omega, by omega, ?_⟩
          unfold tagW
          rw [if_neg z]
          have : joinW B ++ Str.ofString " tag " ++ r.tag = joinW (B ++ [Str.ofString "tag", r.tag]) := str_ext (by
            rw [joinW_app hne (by simp), cs_app, cs_app, c5, cs_joinW [_, _]]
            simp [TL.joinL])
          rw [this]
      · rintro ρ M2 ⟨rfl, rfl⟩
        have ht : (joinW (B ++ tagW r)).length ≤ 24300 := by
          rw [len_cs]
          unfold tagW
          split
          · rw [List.append_nil, ← len_cs]; omega
          · rename_i z
            have l4 : r.tag.length ≤ 12 := by
              unfold tagB at g4
              rw [Bool.or_eq_true, decide_eq_true_eq] at g4
              exact l12 (word_name (g4.resolve_left z))
            have hb' := hb
            rw [len_cs] at hb' l4
            have e3 : (cs (Str.ofString "tag")).length = 3 := by decide +kernel
            rw [joinW_app hne (by simp), cs_joinW [_, _]]
            simp only [TL.joinL, List.map_cons, List.map_nil, List.length_append, List.length_cons, List.length_nil, e3]
            omega
        have hne2 : B ++ tagW r ≠ [] := fun e => hne (List.append_eq_nil_iff.mp e).1
        generalize B ++ tagW r = C at ht hne2 h ⊢
        refine ⟨fun ρ M3 => ρ = [.dat (roD r), .dat (.int b), .dat (.str (topS r.weight b)), .dat (.str (joinW (C ++ undW r)))] ∧ M3 = M2, ?_, ?_⟩
        · cases hu : r.under with
          | none =>
            rw [hu] at e5
            simp! [er, e5, undL]
            unfold undW
            rw [hu, List.append_nil]
          | some us =>
            rw [hu] at e5 g5
            have u4 := rt.l4 us hu
            unfold underB at g5
            simp only [Bool.and_eq_true, List.all_eq_true, Bool.not_eq_true', List.isEmpty_eq_false_iff] at g5
            have lu : lnW us := ⟨by
              intro e
              rw [e] at g5
              simp at g5, by omega, fun w hw => word_okW (g5.2 w hw)⟩
            have luj := lu.len
            simp! [er, e5, undL, app_len, q6]
            refine ⟨by omega, lu.join ?_⟩
            simp! [app_len, q6]
            refine ⟨by omega, ?_⟩
            unfold undW
            rw [hu]
            have : joinW C ++ Str.ofString " under " ++ joinW us = joinW (C ++ Str.ofString "under" :: us) := str_ext (by
              rw [joinW_app hne2 (by simp), cs_app, cs_app, c6, show Str.ofString "under" :: us = [Str.ofString "under"] ++ us from rfl, joinW_app (by simp) lu.1, cs_joinW [_]]
              simp [TL.joinL])
            rw [this]
        · rintro ρ M3 ⟨rfl, rfl⟩
          simp! [dSeq]
          exact h
  · exact h.elim

end Z

namespace Z
open PySem L2
local macro_rules | `(tactic| simp! [$xs,*]) => `(tactic| simp only [$xs,*, ↓dSeq, ↓dAsg, ↓dOp, ↓dVar, ↓dVarR, ↓dC, ↓dCall, ↓dCons, ↓dNil, ↓dIf, ↓dRet, ↓dRetN, ↓dTup, ↓dTst, ↓dNeg, ↓dNext, ↓dCB, ↓dLstOf, ↓dLst, ↓dCat, ↓dSlL, ↓dSlS, ↓dONone, ↓dOSome, ↓dList1, ↓dChain, ↓dChain3, ↓dAndT, ↓dOrT, ↓dNotT, ↓dAndV, ↓dOrV, ↓dNotV, ↓dIfE, ↓dTru, ↓dOwn, ↓dAsgG, ↓dPar, ↓dDrop, ↓dAugI, ↓dBreak, ↓dCont, ↓dgName, ↓dgNil, ↓dgCons, ↓dgTup, ↓dFrz, ↓frzE, ↓dItA, ↓dItB, ↓dRng1, ↓dRng2, ↓dEnum, ↓dFor, ↓dSM, ↓dSM0, ↓dRepN, ↓dLc, ↓dYes, ↓wipeE, ↓dStore, ↓dLmut, ↓lmPre, ↓lmAt, ↓isLst, ↓kNx, ↓kSet, ↓lmAppend, ↓lmExtend, ↓lmPop, ↓lmPopAt, ↓lmClear, ↓lmInsert, ↓lmSet, ↓dAugL, ↓dAugS, ↓lmAugS, ↓dMake, ↓dMake0, ↓dMeth, ↓dFld, ↓dSetF, ↓dTry, ↓dTryM, ↓exM, ↓dRaise, ↓endsOf, ↓startE, ↓entOf, ↓ga, ↓pur, ↓dDnew, ↓dDput, ↓dDget, ↓dDsetd, ↓dLmX, ↓dFrzM, ↓dZip, ↓dZipM, ↓dListRev, ↓oListRev, ↓dOrG, ↓dLstM, ↓onDic, ↓onDicR, ↓onLst, ↓obD, ↓dVarP, ↓dItC, ↓onIns, ↓endsW, ↓dLidx, ↓isLD, ↓oIdx, ↓dTake, ↓dLendT, ↓dLendE, ↓lendE, ↓lend1, ↓dFzv, ↓fzv, ↓dStoreX, ↓dLidxD, ↓dGive, ↓dZip3, ↓dListD, ↓drf_int, ↓drf_str, ↓drf_bl, ↓drf_non, ↓drf_lst, ↓drf_tup, ↓drf_obj, ↓drf_dic, ↓drf_cls, ↓drf_exc, ↓drf_ty, ↓drf_ref, ↓drfO_dic, ↓drfO_lst, ↓drfO_ins, ↓drfO_non, ↓oLen_d, ↓oIn_d, ↓oNotIn_d, ↓oIn_dt, ↓oNotIn_dt, ↓kOkB_s, ↓kOkB_i, ↓oAdd_i, ↓oAdd_s, ↓oAdd_t, ↓oAdd_l, ↓oSub_i, ↓oMul_i, ↓oMulW_i, ↓oMulA_i, ↓oMulA_s, ↓oFdiv_i, ↓oMod_i, ↓oPow_i, ↓oLt_i, ↓oLtA_i, ↓oLe_i, ↓oGt_i, ↓oGe_i, ↓oEq_i, ↓oEq_s, ↓oEq_b, ↓oEq_nn, ↓oEq_ni, ↓oEq_in, ↓oEq_ns, ↓oEq_sn, ↓oNe_i, ↓oNe_s, ↓oNe_b, ↓oNe_nn, ↓oNe_ni, ↓oNe_in, ↓oNe_ns, ↓oNe_sn, ↓oIsN_, ↓oNotN_, ↓isNon_int, ↓isNon_str, ↓isNon_bl, ↓isNon_non, ↓isNon_lst, ↓isNon_tup, ↓isNon_obj, ↓isNon_exc, ↓isNon_dic, ↓oLen_s, ↓oLen_l, ↓oLen_t, ↓oAbs_, ↓oMax2_, ↓oMin2_, ↓oMinT_, ↓oMaxT_, ↓oInt1_i, ↓oInt1_b, ↓oInt1_s, ↓oStr1_, ↓oTuple1_l, ↓oTuple1_t, ↓oList1_l, ↓oList1_t, ↓oListD_d, ↓oCat_l, ↓truD_n, ↓truD_b, ↓truD_i, ↓truD_s, ↓truD_l, ↓truD_t, ↓onStr_s, ↓soStarts_, ↓soUpper_, ↓soLower_, ↓soIsupper_, ↓soFind_, ↓soStrip_, ↓soPart_, ↓soSplit_, ↓soJoin_l, ↓soJoin_t, ↓oSlL_l, ↓oSlS_l, ↓oSlS_t, ↓oSlS_s, ↓isi_int_int, ↓isi_int_str, ↓isi_int_bool, ↓isi_int_NoneType, ↓isi_int_list, ↓isi_int_tuple, ↓isi_bool_int, ↓isi_bool_str, ↓isi_bool_bool, ↓isi_bool_NoneType, ↓isi_bool_list, ↓isi_bool_tuple, ↓isi_tuple_int, ↓isi_tuple_str, ↓isi_tuple_bool, ↓isi_tuple_NoneType, ↓isi_tuple_list, ↓isi_tuple_tuple, ↓isi_str_int, ↓isi_str_str, ↓isi_str_bool, ↓isi_str_NoneType, ↓isi_str_list, ↓isi_str_tuple, ↓isi_list_int, ↓isi_list_str, ↓isi_list_bool, ↓isi_list_NoneType, ↓isi_list_list, ↓isi_list_tuple, ↓oIx_t0, ↓oIx_l0, ↓oIx_t1, ↓oIx_l1, ↓oIx_t2, ↓oIx_l2, ↓oIx_t3, ↓oIx_l3, ↓oIx_t4, ↓oIx_l4, ↓oIx_t5, ↓oIx_l5, ↓oIx_f0, ↓oIx_f1, ↓drf_fD, ↓oLen_f, ↓isi_tuple_f, ↓isi_int_f, ↓eq_fD, ↓ne_fD, ofS_inj, mem_ofS, mem_ofS0, putD_nil, putD_cons, updM_same, String.reduceEq, Nat.reduceLT, true_or, or_true, false_or, or_false, true_and, and_true, false_and, and_false, List.set_cons_zero, List.set_cons_succ, List.map_cons, List.map_nil, if_true, if_false, Bool.false_eq_true, decide_eq_true_eq, List.length_cons, List.length_nil, Int.reduceNe, Int.reduceLT, Int.reduceLE, Int.reduceEq, Int.reduceToNat, Int.reducePow, Int.reduceNeg, Int.reduceAdd, Int.reduceMul, Int.reduceSub, Nat.reduceAdd, Nat.reduceLeDiff, Nat.reduceEqDiff, Int.cast_ofNat_Int, Bool.true_eq_false, ite_not, sizeLine_eq, true_and, and_true, and_self, Int.fmod_eq_emod_of_nonneg, Int.fdiv_eq_ediv_of_nonneg, Bool.not_true, Bool.not_false, Bool.not_eq_true', decide_eq_false_iff_not, decide_true, decide_false])

/-! ### rules that make a grammar -/
theorem firstWT_ok {c : Bool} : ∀ (rs : List Ru) (seen : List Str), (seen ++ titlesOf rs).Nodup → (∀ r ∈ rs, takesB c r.weight = true) → firstWT c seen rs = none
  | [], _, _, _ => rfl
  | r :: rs, seen, h, ht => by
    unfold firstWT
    rw [if_neg (by rw [ht r (by simp)]; decide)]
    have e : seen ++ titlesOf (r :: rs) = (seen ++ [r.title]) ++ titlesOf rs := by simp [titlesOf]
    rw [if_neg, firstWT_ok rs _ (by rw [← e]; exact h) fun q hq => ht q (by simp [hq])]
    intro hm
    rw [List.nodup_append] at h
    exact h.2.2 _ hm _ (by simp [titlesOf]) rfl
structure Gd (c : Bool) (k0 : Str) (rs : List Ru) : Prop where
  rl : rs.length ≤ 11
  ru : ∀ r ∈ rs, RuT r
  wt : ∀ r ∈ rs, takesB c r.weight = true
  ti : (titlesOf rs).Nodup
  un : ∀ r ∈ rs, ∀ us, r.under = some us → ∀ u ∈ us, u ∈ titlesOf rs
  pk : ∀ r ∈ rs, ∀ p ∈ r.parts, kindB p = true → p ∈ headsOf rs
  h0 : k0 ∈ headsOf rs
  kk : kindB k0 = true ∧ okS k0
  nr : ¬ Ring rs
theorem Gd.gram {c : Bool} {k0 : Str} {rs : List Ru} (s : Gd c k0 rs) : rsOk rs ∧ ∀ o, GramIs (wordS c) k0 rs o → o = none := by
  refine ⟨⟨by have := s.rl; omega, fun r hr => ⟨(s.ru r hr).ok, (ru_parts (s.ru r hr).gd).2.1⟩⟩, fun o ho => ?_⟩
  have hf : firstWT c [] rs = none := firstWT_ok rs [] (by rw [List.nil_append]; exact s.ti) s.wt
  have hu : undersB rs = true := by
    unfold undersB
    rw [List.all_eq_true]
    intro r hr
    rw [List.all_eq_true]
    intro u hu
    cases z : r.under with
    | none => rw [z] at hu; nomatch hu
    | some us =>
      rw [z] at hu
      exact decide_eq_true (s.un r hr us z u hu)
  have hk : kindsB k0 rs = true := by
    unfold kindsB
    rw [List.all_eq_true]
    intro k hk
    refine decide_eq_true ?_
    rcases List.mem_cons.mp hk with rfl | hk
    · exact s.h0
    · obtain ⟨r, hr, hk⟩ := List.mem_flatMap.mp hk
      obtain ⟨h1, h2⟩ := List.mem_filter.mp hk
      exact s.pk r hr k h1 h2
  rcases ho with ⟨z1, z2, _⟩ | ⟨c', hc, ho⟩
  · exact (wordS_no z1 z2).elim
  · obtain rfl := wordS_inj hc
    rcases ho with ⟨e, he, _⟩ | ⟨_, ho⟩
    · rw [hf] at he; cases he
    · rcases ho with ⟨z, _⟩ | ⟨_, ho⟩
      · rw [hu] at z; cases z
      · rcases ho with ⟨z, _⟩ | ⟨_, ho⟩
        · rw [hk] at z; cases z
        · rcases ho with ⟨z, _⟩ | ⟨_, z⟩
          · exact absurd z s.nr
          · exact z
theorem Wild.gd {c : Bool} {ks : List Str} {rs : List Ru} {k0 : Str} (s : Wild 0 (wordS c) ks rs) (h0 : ks[0]? = some k0) (hne : rs ≠ []) : Gd c k0 rs := by
  have f := s.fine h0 hne
  refine ⟨s.rl, fun r hr => ⟨(s.ru r hr).1, (s.ru r hr).2.1, (s.ru r hr).2.2.1, s.ul r hr⟩, fun r hr => ?_, f.ti, f.un, f.pk, f.h0, s.kk k0 (List.mem_of_getElem? h0), f.nr⟩
  unfold takesB
  cases c with
  | false => rfl
  | true => exact decide_eq_true (s.wt (by decide) (by decide) rfl r hr)
/-! other words -/
theorem lead_ren {rs : List Ru} {f : Ru → Ru} (hf : ∀ r, (f r).head = r.head ∧ (f r).parts = r.parts) {x y : Str} (h : Lead (stepsOf (rs.map f)) x y) : Lead (stepsOf rs) x y := by
  have one : ∀ {a b : Str}, b ∈ succ (stepsOf (rs.map f)) a → b ∈ succ (stepsOf rs) a := fun {a b} hb => by
    obtain ⟨r, hr, e1, e2, e3⟩ := (succ_steps _ _ _).mp hb
    obtain ⟨q, hq, rfl⟩ := List.mem_map.mp hr
    exact (succ_steps _ _ _).mpr ⟨q, hq, by rw [← (hf q).1]; exact e1, by rw [← (hf q).2]; exact e2, e3⟩
  induction h with
  | one hb => exact .one (one hb)
  | more _ hc ih => exact .more ih (one hc)
def someW : List Str := ["rule", "tag", "under", "scale", "start", "cost", "chance", "tags", "rules", "1", "net", "words"]
theorem someW_ok : ∀ w ∈ someW, wordB w = true ∧ okS w := fun w hw => by
  unfold someW at hw
  simp only [List.mem_cons, List.not_mem_nil, or_false] at hw
  rcases hw with rfl | rfl | rfl | rfl | rfl | rfl | rfl | rfl | rfl | rfl | rfl | rfl
  all_goals exact ⟨by decide +kernel, okS_of (by decide +kernel) (by decide +kernel)⟩
theorem someW_nd : someW.Nodup := by decide +kernel
def tw (ts : List Str) (x : Str) : Str := someW.getD (ts.idxOf x) ""
def ren (ts : List Str) (tg : Str) (r : Ru) : Ru := ⟨tw ts r.title, r.head, r.parts, r.weight, if r.tag = "" then "" else tg, r.under.map (·.map (tw ts))⟩
theorem tw_at {ts : List Str} {x : Str} (hl : ts.length ≤ 11) (hx : x ∈ ts) : someW[ts.idxOf x]? = some (tw ts x) := by
  have h1 := List.idxOf_lt_length_of_mem hx
  have h2 : ts.idxOf x < someW.length := by show _ < 12; omega
  unfold tw
  rw [List.getD_eq_getElem?_getD, List.getElem?_eq_getElem h2]
  rfl
theorem tw_mem {ts : List Str} {x : Str} (hl : ts.length ≤ 11) (hx : x ∈ ts) : tw ts x ∈ someW := List.mem_of_getElem? (tw_at hl hx)
theorem tw_inj {ts : List Str} {x y : Str} (hl : ts.length ≤ 11) (hx : x ∈ ts) (hy : y ∈ ts) (h : tw ts x = tw ts y) : x = y := by
  have e1 := tw_at hl hx
  have e2 := tw_at hl hy
  rw [h] at e1
  have e := nodup_at someW_nd e1 e2
  have h1 := List.idxOf_lt_length_of_mem hx
  have h2 := List.idxOf_lt_length_of_mem hy
  have g1 := List.getElem_idxOf h1
  have g2 := List.getElem_idxOf h2
  rw [← g1, ← g2]
  congr 1
theorem titles_ren {ts : List Str} {tg : Str} {rs : List Ru} : titlesOf (rs.map (ren ts tg)) = (titlesOf rs).map (tw ts) := by
  unfold titlesOf
  rw [List.map_map, List.map_map]; rfl
theorem heads_ren {ts : List Str} {tg : Str} {rs : List Ru} : headsOf (rs.map (ren ts tg)) = headsOf rs := by
  unfold headsOf
  rw [List.map_map]; rfl
theorem titles_len (rs : List Ru) : (titlesOf rs).length = rs.length := by unfold titlesOf; rw [List.length_map]
theorem Gd.ren {c : Bool} {k0 tg : Str} {rs : List Ru} (s : Gd c k0 rs) (htg : tg ∈ someW) : Gd c k0 (rs.map (Z.ren (titlesOf rs) tg)) := by
  have tl : (titlesOf rs).length ≤ 11 := by rw [titles_len]; exact s.rl
  have tm : ∀ r ∈ rs, r.title ∈ titlesOf rs := fun r hr => List.mem_map.mpr ⟨r, hr, rfl⟩
  have sp : ∀ q ∈ rs.map (Z.ren (titlesOf rs) tg), ∃ r ∈ rs, q = Z.ren (titlesOf rs) tg r := fun q hq => by
    obtain ⟨r, hr, rfl⟩ := List.mem_map.mp hq
    exact ⟨r, hr, rfl⟩
  have tw' : ∀ r ∈ rs, wordB (tw (titlesOf rs) r.title) = true ∧ okS (tw (titlesOf rs) r.title) := fun r hr => someW_ok _ (tw_mem tl (tm r hr))
  refine ⟨by rw [List.length_map]; exact s.rl, fun q hq => ?_, fun q hq => ?_, ?_, fun q hq us hus u hu => ?_, fun q hq p hp hk => ?_, by rw [heads_ren]; exact s.h0, s.kk, fun ⟨k, hk⟩ => s.nr ⟨k, lead_ren (f := Z.ren (titlesOf rs) tg) (fun r => ⟨rfl, rfl⟩) hk⟩⟩
  · obtain ⟨r, hr, rfl⟩ := sp q hq
    have rt := s.ru r hr
    have g := rt.gd
    unfold ruGood at g
    simp only [Bool.and_eq_true] at g
    obtain ⟨g1, g2, g3, g4, g5⟩ := g
    have un : ∀ us, (Z.ren (titlesOf rs) tg r).under = some us → ∃ vs, r.under = some vs ∧ us = vs.map (tw (titlesOf rs)) := fun us hus => by
      have hus : r.under.map (·.map (tw (titlesOf rs))) = some us := hus
      obtain ⟨vs, h1, h2⟩ := Option.map_eq_some_iff.mp hus
      exact ⟨vs, h1, h2.symm⟩
    refine ⟨⟨(tw' r hr).2, rt.ok.h, rt.ok.p, rt.ok.pl, ?_, fun us hus => ?_⟩, ?_, rt.ft, fun us hus => ?_⟩
    · show okS (if r.tag = "" then "" else tg)
      split
      · exact okS_nil
      · exact (someW_ok tg htg).2
    · obtain ⟨vs, h1, rfl⟩ := un us hus
      refine ⟨by rw [List.length_map]; exact (rt.ok.u vs h1).1, fun x hx => ?_⟩
      obtain ⟨v, hv, rfl⟩ := List.mem_map.mp hx
      exact (someW_ok _ (tw_mem tl (s.un r hr vs h1 v hv))).2
    · show (wordB (tw (titlesOf rs) r.title) && (kindB r.head && (partsB r.parts && (tagB (if r.tag = "" then "" else tg) && underB (r.under.map (·.map (tw (titlesOf rs)))))))) = true
      have h4 : tagB (if r.tag = "" then "" else tg) = true := by
        split
        · decide +kernel
        · unfold tagB
          rw [(someW_ok tg htg).1, Bool.or_true]
      have h5 : underB (r.under.map (·.map (tw (titlesOf rs)))) = true := by
        cases hu : r.under with
        | none => rfl
        | some vs =>
          rw [hu] at g5
          show (decide (vs.map (tw (titlesOf rs)) ≠ []) && (vs.map (tw (titlesOf rs))).all wordB) = true
          have g5 : (decide (vs ≠ []) && vs.all wordB) = true := g5
          rw [Bool.and_eq_true, decide_eq_true_eq] at g5
          rw [Bool.and_eq_true, decide_eq_true_eq, List.all_eq_true]
          rw [List.all_eq_true] at g5
          refine ⟨fun e => g5.1 (List.map_eq_nil_iff.mp e), fun x hx => ?_⟩
          obtain ⟨v, hv, rfl⟩ := List.mem_map.mp hx
          exact (someW_ok _ (tw_mem tl (s.un r hr vs hu v hv))).1
      rw [(tw' r hr).1, g2, g3, h4, h5]; rfl
    · obtain ⟨vs, h1, rfl⟩ := un us hus
      rw [List.length_map]
      exact rt.l4 vs h1
  · obtain ⟨r, hr, rfl⟩ := sp q hq
    exact s.wt r hr
  · rw [titles_ren]
    unfold List.Nodup
    rw [List.pairwise_map]
    exact s.ti.imp_of_mem fun ha hb hne e => hne (tw_inj tl ha hb e)
  · obtain ⟨r, hr, rfl⟩ := sp q hq
    have hus : r.under.map (·.map (tw (titlesOf rs))) = some us := hus
    obtain ⟨vs, h1, rfl⟩ := Option.map_eq_some_iff.mp hus
    obtain ⟨v, hv, rfl⟩ := List.mem_map.mp hu
    rw [titles_ren]
    exact List.mem_map.mpr ⟨v, s.un r hr vs h1 v hv, rfl⟩
  · obtain ⟨r, hr, rfl⟩ := sp q hq
    rw [heads_ren]
    exact s.pk r hr p hp hk
/-- the row where none are drawn -/
def undRow (k0 : Str) : Ru := ⟨"under", k0, ["tag", "rule"], Rat.divInt 3 4, "under", some ["under", "under"]⟩
theorem Gd.one {c : Bool} {k0 : Str} (hk : kindB k0 = true ∧ okS k0) : Gd c k0 [undRow k0] := by
  have o1 : okS "under" := okS_of (by decide +kernel) (by decide +kernel)
  have o2 : okS "tag" := okS_of (by decide +kernel) (by decide +kernel)
  have o3 : okS "rule" := okS_of (by decide +kernel) (by decide +kernel)
  have k1 : kindB "tag" = false := by decide +kernel
  have k2 : kindB "rule" = false := by decide +kernel
  have par : ∀ r ∈ [undRow k0], r = undRow k0 := fun r hr => List.mem_singleton.mp hr
  have pm : ∀ p ∈ (undRow k0).parts, p = "tag" ∨ p = "rule" := fun p hp => by
    unfold undRow at hp
    simpa using hp
  have um : ∀ us : List Str, (undRow k0).under = some us → us = [("under" : Str), "under"] := fun us h => by
    unfold undRow at h
    injection h with h
    exact h.symm
  refine ⟨by simp, fun r hr => ?_, fun r hr => ?_, by simp [titlesOf], fun r hr us z => ?_, fun r hr p hp hkp => ?_, by simp [headsOf, undRow], hk, ?_⟩
  · rw [par r hr]
    refine ⟨⟨o1, hk.2, fun p hp => ?_, by show 2 ≤ 1000; omega, o1, fun us z => ?_⟩, ?_, ⟨by show (Rat.divInt 3 4).num.natAbs < _; decide +kernel, by show (Rat.divInt 3 4).den < _; decide +kernel⟩, fun us z => ?_⟩
    · rcases pm p hp with rfl | rfl
      · exact o2
      · exact o3
    · rw [um us z]
      refine ⟨by simp, fun x hx => ?_⟩
      have : x = "under" := by simpa using hx
      rw [this]; exact o1
    · show (wordB "under" && (kindB k0 && (partsB ["tag", "rule"] && (tagB "under" && underB (some ["under", "under"]))))) = true
      rw [hk.1]
      decide +kernel
    · rw [um us z]; simp
  · rw [par r hr]
    show takesB c (Rat.divInt 3 4) = true
    cases c <;> decide +kernel
  · rw [par r hr] at z
    rw [um us z]
    intro u hu
    have : u = "under" := by simpa using hu
    rw [this]; simp [titlesOf, undRow]
  · rw [par r hr] at hp
    rcases pm p hp with rfl | rfl
    · rw [k1] at hkp; cases hkp
    · rw [k2] at hkp; cases hkp
  · rintro ⟨k, hl⟩
    have : ∀ {x y : Str}, Lead (stepsOf [undRow k0]) x y → False := fun {x y} hl => by
      induction hl with
      | one hb =>
        obtain ⟨r, hr, e1, e2, e3⟩ := (succ_steps _ _ _).mp hb
        rw [par r hr] at e2
        have e2 := congrArg List.length e2
        simp [undRow] at e2
      | more _ _ ih => exact ih
    exact this hl

end Z

namespace Z
open PySem L2
local macro_rules | `(tactic| simp! [$xs,*]) => `(tactic| simp only [$xs,*, ↓dSeq, ↓dAsg, ↓dOp, ↓dVar, ↓dVarR, ↓dC, ↓dCall, ↓dCons, ↓dNil, ↓dIf, ↓dRet, ↓dRetN, ↓dTup, ↓dTst, ↓dNeg, ↓dNext, ↓dCB, ↓dLstOf, ↓dLst, ↓dCat, ↓dSlL, ↓dSlS, ↓dONone, ↓dOSome, ↓dList1, ↓dChain, ↓dChain3, ↓dAndT, ↓dOrT, ↓dNotT, ↓dAndV, ↓dOrV, ↓dNotV, ↓dIfE, ↓dTru, ↓dOwn, ↓dAsgG, ↓dPar, ↓dDrop, ↓dAugI, ↓dBreak, ↓dCont, ↓dgName, ↓dgNil, ↓dgCons, ↓dgTup, ↓dFrz, ↓frzE, ↓dItA, ↓dItB, ↓dRng1, ↓dRng2, ↓dEnum, ↓dFor, ↓dSM, ↓dSM0, ↓dRepN, ↓dLc, ↓dYes, ↓wipeE, ↓dStore, ↓dLmut, ↓lmPre, ↓lmAt, ↓isLst, ↓kNx, ↓kSet, ↓lmAppend, ↓lmExtend, ↓lmPop, ↓lmPopAt, ↓lmClear, ↓lmInsert, ↓lmSet, ↓dAugL, ↓dAugS, ↓lmAugS, ↓dMake, ↓dMake0, ↓dMeth, ↓dFld, ↓dSetF, ↓dTry, ↓dTryM, ↓exM, ↓dRaise, ↓endsOf, ↓startE, ↓entOf, ↓ga, ↓pur, ↓dDnew, ↓dDput, ↓dDget, ↓dDsetd, ↓dLmX, ↓dFrzM, ↓dZip, ↓dZipM, ↓dListRev, ↓oListRev, ↓dOrG, ↓dLstM, ↓onDic, ↓onDicR, ↓onLst, ↓obD, ↓dVarP, ↓dItC, ↓onIns, ↓endsW, ↓dLidx, ↓isLD, ↓oIdx, ↓dTake, ↓dLendT, ↓dLendE, ↓lendE, ↓lend1, ↓dFzv, ↓fzv, ↓dStoreX, ↓dLidxD, ↓dGive, ↓dZip3, ↓dListD, ↓drf_int, ↓drf_str, ↓drf_bl, ↓drf_non, ↓drf_lst, ↓drf_tup, ↓drf_obj, ↓drf_dic, ↓drf_cls, ↓drf_exc, ↓drf_ty, ↓drf_ref, ↓drfO_dic, ↓drfO_lst, ↓drfO_ins, ↓drfO_non, ↓oLen_d, ↓oIn_d, ↓oNotIn_d, ↓oIn_dt, ↓oNotIn_dt, ↓kOkB_s, ↓kOkB_i, ↓oAdd_i, ↓oAdd_s, ↓oAdd_t, ↓oAdd_l, ↓oSub_i, ↓oMul_i, ↓oMulW_i, ↓oMulA_i, ↓oMulA_s, ↓oFdiv_i, ↓oMod_i, ↓oPow_i, ↓oLt_i, ↓oLtA_i, ↓oLe_i, ↓oGt_i, ↓oGe_i, ↓oEq_i, ↓oEq_s, ↓oEq_b, ↓oEq_nn, ↓oEq_ni, ↓oEq_in, ↓oEq_ns, ↓oEq_sn, ↓oNe_i, ↓oNe_s, ↓oNe_b, ↓oNe_nn, ↓oNe_ni, ↓oNe_in, ↓oNe_ns, ↓oNe_sn, ↓oIsN_, ↓oNotN_, ↓isNon_int, ↓isNon_str, ↓isNon_bl, ↓isNon_non, ↓isNon_lst, ↓isNon_tup, ↓isNon_obj, ↓isNon_exc, ↓isNon_dic, ↓oLen_s, ↓oLen_l, ↓oLen_t, ↓oAbs_, ↓oMax2_, ↓oMin2_, ↓oMinT_, ↓oMaxT_, ↓oInt1_i, ↓oInt1_b, ↓oInt1_s, ↓oStr1_, ↓oTuple1_l, ↓oTuple1_t, ↓oList1_l, ↓oList1_t, ↓oListD_d, ↓oCat_l, ↓truD_n, ↓truD_b, ↓truD_i, ↓truD_s, ↓truD_l, ↓truD_t, ↓onStr_s, ↓soStarts_, ↓soUpper_, ↓soLower_, ↓soIsupper_, ↓soFind_, ↓soStrip_, ↓soPart_, ↓soSplit_, ↓soJoin_l, ↓soJoin_t, ↓oSlL_l, ↓oSlS_l, ↓oSlS_t, ↓oSlS_s, ↓isi_int_int, ↓isi_int_str, ↓isi_int_bool, ↓isi_int_NoneType, ↓isi_int_list, ↓isi_int_tuple, ↓isi_bool_int, ↓isi_bool_str, ↓isi_bool_bool, ↓isi_bool_NoneType, ↓isi_bool_list, ↓isi_bool_tuple, ↓isi_tuple_int, ↓isi_tuple_str, ↓isi_tuple_bool, ↓isi_tuple_NoneType, ↓isi_tuple_list, ↓isi_tuple_tuple, ↓isi_str_int, ↓isi_str_str, ↓isi_str_bool, ↓isi_str_NoneType, ↓isi_str_list, ↓isi_str_tuple, ↓isi_list_int, ↓isi_list_str, ↓isi_list_bool, ↓isi_list_NoneType, ↓isi_list_list, ↓isi_list_tuple, ↓oIx_t0, ↓oIx_l0, ↓oIx_t1, ↓oIx_l1, ↓oIx_t2, ↓oIx_l2, ↓oIx_t3, ↓oIx_l3, ↓oIx_t4, ↓oIx_l4, ↓oIx_t5, ↓oIx_l5, ↓oIx_f0, ↓oIx_f1, ↓drf_fD, ↓oLen_f, ↓isi_tuple_f, ↓isi_int_f, ↓eq_fD, ↓ne_fD, ofS_inj, mem_ofS, mem_ofS0, putD_nil, putD_cons, updM_same, String.reduceEq, Nat.reduceLT, true_or, or_true, false_or, or_false, true_and, and_true, false_and, and_false, List.set_cons_zero, List.set_cons_succ, List.map_cons, List.map_nil, if_true, if_false, Bool.false_eq_true, decide_eq_true_eq, List.length_cons, List.length_nil, Int.reduceNe, Int.reduceLT, Int.reduceLE, Int.reduceEq, Int.reduceToNat, Int.reducePow, Int.reduceNeg, Int.reduceAdd, Int.reduceMul, Int.reduceSub, Nat.reduceAdd, Nat.reduceLeDiff, Nat.reduceEqDiff, Int.cast_ofNat_Int, Bool.true_eq_false, ite_not, sizeLine_eq, true_and, and_true, and_self, Int.fmod_eq_emod_of_nonneg, Int.fdiv_eq_ediv_of_nonneg, Bool.not_true, Bool.not_false, Bool.not_eq_true', decide_eq_false_iff_not, decide_true, decide_false])

/-! ### dicts by texts -/
theorem getK_mapA (K X v : D) : ∀ ks : List (D × D), getK (ks.map fun p => if nk p.1 = nk K then (p.1, v) else p) X = if nk X = nk K then (getK ks X).map (fun _ => v) else getK ks X
  | [] => by simp [getK]
  | p :: r => by
    have ih := getK_mapA K X v r
    rw [List.map_cons]
    by_cases e1 : nk p.1 = nk X
    · have e1' : nk (if nk p.1 = nk K then (p.1, v) else p).1 = nk X := by split <;> exact e1
      rw [getK_pos e1', getK_pos e1]
      by_cases e2 : nk p.1 = nk K
      · rw [if_pos e2, if_pos (e1.symm.trans e2)]; rfl
      · rw [if_neg e2, if_neg (fun z => e2 (e1.trans z))]
    · have e1' : ¬ nk (if nk p.1 = nk K then (p.1, v) else p).1 = nk X := by split <;> exact e1
      rw [getK_neg e1', getK_neg e1, ih]
theorem getK_appB (K X v : D) : ∀ ks : List (D × D), getK (ks ++ [(K, v)]) X = (match getK ks X with | some d => some d | none => if nk K = nk X then some v else none)
  | [] => by
    show getK [(K, v)] X = _
    by_cases e : nk K = nk X
    · rw [getK_pos e]; simp [getK_nil, e]
    · rw [getK_neg e]; simp [getK_nil, e]
  | p :: r => by
    have ih := getK_appB K X v r
    rw [List.cons_append]
    by_cases e1 : nk p.1 = nk X
    · rw [getK_pos e1, getK_pos e1]
    · rw [getK_neg e1, getK_neg e1, ih]
theorem getK_put (ks : List (D × D)) (k x : Str) (v : D) : getK (putG ks (.str k) v) (.str x) = if x = k then some v else getK ks (.str x) := by
  unfold putG
  split
  · rename_i hs
    rw [getK_mapA]
    by_cases e : x = k
    · subst e
      rw [if_pos rfl, if_pos rfl]
      obtain ⟨d, hd⟩ := Option.isSome_iff_exists.mp hs
      rw [hd]; rfl
    · rw [if_neg (fun z => e (nk_str.mp z)), if_neg e]
  · rename_i hs
    rw [getK_appB]
    by_cases e : x = k
    · subst e
      have : getK ks (.str x) = none := by
        cases z : getK ks (.str x) with
        | none => rfl
        | some d => rw [z] at hs; exact absurd rfl hs
      rw [this, if_pos rfl, if_pos rfl]
    · rw [if_neg e, if_neg (fun z => e (nk_str.mp z).symm)]
      cases getK ks (.str x) <;> rfl

end Z

namespace Z
open PySem L2
local macro_rules | `(tactic| simp! [$xs,*]) => `(tactic| simp only [$xs,*, ↓dSeq, ↓dAsg, ↓dOp, ↓dVar, ↓dVarR, ↓dC, ↓dCall, ↓dCons, ↓dNil, ↓dIf, ↓dRet, ↓dRetN, ↓dTup, ↓dTst, ↓dNeg, ↓dNext, ↓dCB, ↓dLstOf, ↓dLst, ↓dCat, ↓dSlL, ↓dSlS, ↓dONone, ↓dOSome, ↓dList1, ↓dChain, ↓dChain3, ↓dAndT, ↓dOrT, ↓dNotT, ↓dAndV, ↓dOrV, ↓dNotV, ↓dIfE, ↓dTru, ↓dOwn, ↓dAsgG, ↓dPar, ↓dDrop, ↓dAugI, ↓dBreak, ↓dCont, ↓dgName, ↓dgNil, ↓dgCons, ↓dgTup, ↓dFrz, ↓frzE, ↓dItA, ↓dItB, ↓dRng1, ↓dRng2, ↓dEnum, ↓dFor, ↓dSM, ↓dSM0, ↓dRepN, ↓dLc, ↓dYes, ↓wipeE, ↓dStore, ↓dLmut, ↓lmPre, ↓lmAt, ↓isLst, ↓kNx, ↓kSet, ↓lmAppend, ↓lmExtend, ↓lmPop, ↓lmPopAt, ↓lmClear, ↓lmInsert, ↓lmSet, ↓dAugL, ↓dAugS, ↓lmAugS, ↓dMake, ↓dMake0, ↓dMeth, ↓dFld, ↓dSetF, ↓dTry, ↓dTryM, ↓exM, ↓dRaise, ↓endsOf, ↓startE, ↓entOf, ↓ga, ↓pur, ↓dDnew, ↓dDput, ↓dDget, ↓dDsetd, ↓dLmX, ↓dFrzM, ↓dZip, ↓dZipM, ↓dListRev, ↓oListRev, ↓dOrG, ↓dLstM, ↓onDic, ↓onDicR, ↓onLst, ↓obD, ↓dVarP, ↓dItC, ↓onIns, ↓endsW, ↓dLidx, ↓isLD, ↓oIdx, ↓dTake, ↓dLendT, ↓dLendE, ↓lendE, ↓lend1, ↓dFzv, ↓fzv, ↓dStoreX, ↓dLidxD, ↓dGive, ↓dZip3, ↓dListD, ↓drf_int, ↓drf_str, ↓drf_bl, ↓drf_non, ↓drf_lst, ↓drf_tup, ↓drf_obj, ↓drf_dic, ↓drf_cls, ↓drf_exc, ↓drf_ty, ↓drf_ref, ↓drfO_dic, ↓drfO_lst, ↓drfO_ins, ↓drfO_non, ↓oLen_d, ↓oIn_d, ↓oNotIn_d, ↓oIn_dt, ↓oNotIn_dt, ↓kOkB_s, ↓kOkB_i, ↓oAdd_i, ↓oAdd_s, ↓oAdd_t, ↓oAdd_l, ↓oSub_i, ↓oMul_i, ↓oMulW_i, ↓oMulA_i, ↓oMulA_s, ↓oFdiv_i, ↓oMod_i, ↓oPow_i, ↓oLt_i, ↓oLtA_i, ↓oLe_i, ↓oGt_i, ↓oGe_i, ↓oEq_i, ↓oEq_s, ↓oEq_b, ↓oEq_nn, ↓oEq_ni, ↓oEq_in, ↓oEq_ns, ↓oEq_sn, ↓oNe_i, ↓oNe_s, ↓oNe_b, ↓oNe_nn, ↓oNe_ni, ↓oNe_in, ↓oNe_ns, ↓oNe_sn, ↓oIsN_, ↓oNotN_, ↓isNon_int, ↓isNon_str, ↓isNon_bl, ↓isNon_non, ↓isNon_lst, ↓isNon_tup, ↓isNon_obj, ↓isNon_exc, ↓isNon_dic, ↓oLen_s, ↓oLen_l, ↓oLen_t, ↓oAbs_, ↓oMax2_, ↓oMin2_, ↓oMinT_, ↓oMaxT_, ↓oInt1_i, ↓oInt1_b, ↓oInt1_s, ↓oStr1_, ↓oTuple1_l, ↓oTuple1_t, ↓oList1_l, ↓oList1_t, ↓oListD_d, ↓oCat_l, ↓truD_n, ↓truD_b, ↓truD_i, ↓truD_s, ↓truD_l, ↓truD_t, ↓onStr_s, ↓soStarts_, ↓soUpper_, ↓soLower_, ↓soIsupper_, ↓soFind_, ↓soStrip_, ↓soPart_, ↓soSplit_, ↓soJoin_l, ↓soJoin_t, ↓oSlL_l, ↓oSlS_l, ↓oSlS_t, ↓oSlS_s, ↓isi_int_int, ↓isi_int_str, ↓isi_int_bool, ↓isi_int_NoneType, ↓isi_int_list, ↓isi_int_tuple, ↓isi_bool_int, ↓isi_bool_str, ↓isi_bool_bool, ↓isi_bool_NoneType, ↓isi_bool_list, ↓isi_bool_tuple, ↓isi_tuple_int, ↓isi_tuple_str, ↓isi_tuple_bool, ↓isi_tuple_NoneType, ↓isi_tuple_list, ↓isi_tuple_tuple, ↓isi_str_int, ↓isi_str_str, ↓isi_str_bool, ↓isi_str_NoneType, ↓isi_str_list, ↓isi_str_tuple, ↓isi_list_int, ↓isi_list_str, ↓isi_list_bool, ↓isi_list_NoneType, ↓isi_list_list, ↓isi_list_tuple, ↓oIx_t0, ↓oIx_l0, ↓oIx_t1, ↓oIx_l1, ↓oIx_t2, ↓oIx_l2, ↓oIx_t3, ↓oIx_l3, ↓oIx_t4, ↓oIx_l4, ↓oIx_t5, ↓oIx_l5, ↓oIx_f0, ↓oIx_f1, ↓drf_fD, ↓oLen_f, ↓isi_tuple_f, ↓isi_int_f, ↓eq_fD, ↓ne_fD, ofS_inj, mem_ofS, mem_ofS0, putD_nil, putD_cons, updM_same, String.reduceEq, Nat.reduceLT, true_or, or_true, false_or, or_false, true_and, and_true, false_and, and_false, List.set_cons_zero, List.set_cons_succ, List.map_cons, List.map_nil, if_true, if_false, Bool.false_eq_true, decide_eq_true_eq, List.length_cons, List.length_nil, Int.reduceNe, Int.reduceLT, Int.reduceLE, Int.reduceEq, Int.reduceToNat, Int.reducePow, Int.reduceNeg, Int.reduceAdd, Int.reduceMul, Int.reduceSub, Nat.reduceAdd, Nat.reduceLeDiff, Nat.reduceEqDiff, Int.cast_ofNat_Int, Bool.true_eq_false, ite_not, sizeLine_eq, true_and, and_true, and_self, Int.fmod_eq_emod_of_nonneg, Int.fdiv_eq_ediv_of_nonneg, Bool.not_true, Bool.not_false, Bool.not_eq_true', decide_eq_false_iff_not, decide_true, decide_false])
def t_l_own_words : DTS :=
 (dSeq (dIf (dTst (dOp oGt (dOp oMod (dVarR 1) (dC (.int 4))) (dC (.int 0)))) (dRet (dVar 0)) dNext)
 (dSeq (dAsg 2 (dLstOf (dLst (dCons (dC (.str "rule")) (dCons (dC (.str "tag")) (dCons (dC (.str "under")) (dCons (dC (.str "scale")) (dCons (dC (.str "start")) (dCons (dC (.str "cost")) (dCons (dC (.str "chance")) (dCons (dC (.str "tags")) (dCons (dC (.str "rules")) (dCons (dC (.str "1")) (dCons (dC (.str "net")) (dCons (dC (.str "words")) dNil)))))))))))))))
 (dSeq (dAsg 3 (dDnew false))
 (dSeq (dFor (dItA (dVar 0)) (dgName 4) (dDput (dVar 3) (dOp oIx (dVarR 4) (dC (.int 0))) (dOp oIx (dVarR 2) (dOp oMod (dCB oLen (dCons (dVarR 3) dNil)) (dC (.int 12))))))
 (dSeq (dFrzM 3 (dOwn 5 (dLst dNil)))
 (dSeq (dFor (dItA (dVar 0)) (dgName 4) (dSeq (dAsg 6 (dOp oIx (dVarR 4) (dC (.int 4))))
 (dCut (dIf (dTst (dOp oNe (dVarR 6) (dC (.str "")))) (dAsg 6 (dOp oIx (dVarR 2) (dOp oMod (dOp oFdiv (dVarR 1) (dC (.int 4))) (dC (.int 12))))) dNext)
 (dSeq (dAsg 7 (dOp oIx (dVarR 4) (dC (.int 5))))
 (dCut (dIf (dTst (dOp oNotN (dVarR 7) (dC .non))) (dAsg 7 (dLstOf (dLc (dItA (dVar 7)) (dgName 8) dYes (dOp oIx (dVarR 3) (dVarR 8)) [8]))) dNext)
 (dLmut lmAppend 5 (dCons (dTup (dCons (dOp oIx (dVarR 3) (dOp oIx (dVarR 4) (dC (.int 0)))) (dCons (dOp oIx (dVarR 4) (dC (.int 1))) (dCons (dOp oIx (dVarR 4) (dC (.int 2))) (dCons (dOp oIx (dVarR 4) (dC (.int 3))) (dCons (dVar 6) (dCons (dVar 7) dNil))))))) dNil) kNx))))))
 (dFrz 5 (dRet (dVar 5)))))))))

/-! ### own words -/
def Ot (rs : List Ru) : Prop := rs.length ≤ 11 ∧ (titlesOf rs).Nodup ∧ (∀ r ∈ rs, RuOk r) ∧ ∀ r ∈ rs, ∀ us, r.under = some us → us.length ≤ 4 ∧ ∀ u ∈ us, u ∈ titlesOf rs
def sp_l_own_words : SpD := fun ds Q _ => match ds with
  | [.lst xs, .int n] => ∃ rs, xs = rs.map roD ∧ 0 ≤ n ∧ n < 2 ^ 62 ∧ Ot rs ∧ Q (.lst (rs.map roD)) ∧ ∀ tg ∈ someW, Q (.lst ((rs.map (ren (titlesOf rs) tg)).map roD))
  | _ => False
theorem putG_new {ks : List (D × D)} {k : Str} {v : D} (h : getK ks (.str k) = none) : (putG ks (.str k) v).length = ks.length + 1 := by
  unfold putG
  rw [h]
  simp
theorem ix_some {i : Int} (h0 : 0 ≤ i) (h1 : i < 12) : ∃ w ∈ someW, someW[i.toNat]? = some w ∧ ∀ Q : D → Prop, oIx (.lst (someW.map .str)) (.int i) Q = Q (.str w) := by
  have hl : i.toNat < someW.length := by show _ < 12; omega
  refine ⟨someW[i.toNat], List.getElem_mem _, List.getElem?_eq_getElem _, fun Q => ?_⟩
  have e := ix_nat (f := D.str) (Q := Q) (List.getElem?_eq_getElem hl)
  rw [show ((i.toNat : Nat) : Int) = i by omega] at e
  exact e
theorem r_l_own_words (ds M Q E) (h : pur sp_l_own_words ds M Q E) : t_l_own_words (endsW Q E) (startE [false, false] 9 ds) M := by
  unfold pur sp_l_own_words at h
  dsimp only at h
  split at h
  · rename_i xs n
    obtain ⟨rs, rfl, n0, n6, ⟨rl, nd, ok, un⟩, h1, h2⟩ := h
    have s4 : Sm 4 := sm_lit (by decide) (by decide)
    have s12 : Sm 12 := sm_lit (by decide) (by decide)
    have sn : Sm n := sm_lit (by have : (2 : Int) ^ 62 < 2 ^ 200 := (by decide); omega) (by have : (2 : Int) ^ 62 < 2 ^ 200 := (by decide); omega)
    generalize hts : titlesOf rs = ts at *
    have tl : ts.length = rs.length := by rw [← hts]; exact titles_len rs
    by_cases z : 0 < n % 4
    · simp! [t_l_own_words, sn, s4, n0]
      rw [if_pos z]
      exact ⟨M, leM.refl M, h1⟩
    · simp! [t_l_own_words, sn, s4, n0]
      rw [if_neg z]
      intro a ha
      refine ⟨fun j ρ M1 => ∃ (ks : List (D × D)) (e4 : Ent), ρ = [.dat (.lst (rs.map roD)), .dat (.int n), .dat (.lst (someW.map .str)), .dat (.ref a), e4, .un, .un, .un, .un] ∧ M1 = updM M a (.dic false ks) ∧ ks.length = j ∧ ∀ x, getK ks (.str x) = if x ∈ ts.take j then some (.str (tw ts x)) else none, ⟨[], .un, rfl, rfl, rfl, fun x => by simp [getK_nil]⟩, ?_, ?_⟩
      · rintro j d hd ρ M1 ⟨ks, e4, rfl, rfl, kl, hk⟩
        rw [List.getElem?_map] at hd
        obtain ⟨r, hr, rfl⟩ := Option.map_eq_some_iff.mp hd
        have hj := (List.getElem?_eq_some_iff.mp hr).1
        have e0 : ∀ Q : D → Prop, oIx (roD r) (.int 0) Q = Q (.str r.title) := fun Q => oIx_t0
        have htj : ts[j]? = some r.title := by rw [← hts]; unfold titlesOf; rw [List.getElem?_map, hr]; rfl
        have hidx : ts.idxOf r.title = j := by
          have hm := List.mem_of_getElem? htj
          have h3 := List.getElem_idxOf (List.idxOf_lt_length_of_mem hm)
          exact nodup_at nd (by rw [List.getElem?_eq_getElem (List.idxOf_lt_length_of_mem hm), h3]) htj
        have hnew : getK ks (.str r.title) = none := by
          rw [hk, if_neg]
          intro hm
          obtain ⟨i, hi⟩ := List.mem_iff_getElem?.mp hm
          rw [List.getElem?_take] at hi
          split at hi
          · rename_i hlt
            have := nodup_at nd hi htj
            omega
          · cases hi
        obtain ⟨w, _, hw, ew⟩ := ix_some (i := ((j : Nat) : Int) % 12) (by omega) (by omega)
        have hw2 : tw ts r.title = w := by
          unfold tw
          rw [hidx, List.getD_eq_getElem?_getD]
          rw [show (((j : Nat) : Int) % 12).toNat = j by omega] at hw
          rw [hw]; rfl
        have er : ∀ M, drf M (roD r) = roD r := fun _ => rfl
        have ed : drfO a (updM M a (.dic false ks) a) = .dic false ks := by rw [updM_same]; rfl
        simp! [er, e0, updM_same, kl, s12, ew]
        refine ⟨by omega, putG ks (.str r.title) (.str w), _, rfl, by rw [upd_updM], by rw [putG_new hnew, kl], fun x => ?_⟩
        rw [getK_put, hk, List.take_add_one, htj]
        by_cases e : x = r.title
        · rw [if_pos e, if_pos (by rw [e]; simp), e, hw2]
        · rw [if_neg e]
          simp [e]
      · rintro ρ M1 ⟨ks, e4, rfl, rfl, kl, hk⟩
        rw [List.length_map, ← tl, List.take_length] at hk
        simp! [dSeq]
        rw [del_up ha]
        obtain ⟨tg, htg, hw, eg⟩ := ix_some (i := n / 4 % 12) (by omega) (by omega)
        have ixk : ∀ {x : Str}, x ∈ ts → ∀ Q : D → Prop, Q (.str (tw ts x)) → oIx (.dic false ks) (.str x) Q := fun {x} hx Q hQ => ⟨rfl, _, by rw [hk, if_pos hx], hQ⟩
        have tm : ∀ r ∈ rs, r.title ∈ ts := fun r hr => by rw [← hts]; exact List.mem_map.mpr ⟨r, hr, rfl⟩
        refine ⟨fun j ρ M1 => (∃ (e4 e6 e7 : Ent), ρ = [.dat (.lst (rs.map roD)), .dat (.int n), .dat (.lst (someW.map .str)), .dat (.dic false ks), e4, .own (((rs.take j).map (ren ts tg)).map roD), e6, e7, .un]) ∧ M1 = M, ⟨⟨_, _, _, rfl⟩, rfl⟩, ?_, ?_⟩
        · rintro j d hd ρ M1 ⟨⟨e4, e6, e7, rfl⟩, rfl⟩
          rw [List.getElem?_map] at hd
          obtain ⟨r, hr, rfl⟩ := Option.map_eq_some_iff.mp hd
          have hj := (List.getElem?_eq_some_iff.mp hr).1
          have hrm := List.mem_of_getElem? hr
          have er : ∀ M, drf M (roD r) = roD r := fun _ => rfl
          have e0 : ∀ Q : D → Prop, oIx (roD r) (.int 0) Q = Q (.str r.title) := fun Q => oIx_t0
          have e1 : ∀ Q : D → Prop, oIx (roD r) (.int 1) Q = Q (.str r.head) := fun Q => oIx_t1
          have e2 : ∀ Q : D → Prop, oIx (roD r) (.int 2) Q = Q (.lst (r.parts.map .str)) := fun Q => oIx_t2
          have e3 : ∀ Q : D → Prop, oIx (roD r) (.int 3) Q = Q (fD r.weight) := fun Q => oIx_t3
          have e4' : ∀ Q : D → Prop, oIx (roD r) (.int 4) Q = Q (.str r.tag) := fun Q => oIx_t4
          have e5 : ∀ Q : D → Prop, oIx (roD r) (.int 5) Q = Q (undL r.under) := fun Q => oIx_t5
          simp! [er, e4']
          refine ⟨fun ρ M2 => ρ = [.dat (.lst (rs.map roD)), .dat (.int n), .dat (.lst (someW.map .str)), .dat (.dic false ks), .dat (roD r), .own (((rs.take j).map (ren ts tg)).map roD), .dat (.str (if r.tag = "" then "" else tg)), e7, .un] ∧ M2 = M1, ?_, ?_⟩
          · simp! [sn, s4, s12, eg, n0]
            by_cases z : r.tag = ""
            · rw [if_pos z, if_pos z, z]
            · rw [if_neg z, if_neg z]
          · rintro ρ M2 ⟨rfl, rfl⟩
            simp! [er, e5]
            refine ⟨fun ρ M3 => ρ = [.dat (.lst (rs.map roD)), .dat (.int n), .dat (.lst (someW.map .str)), .dat (.dic false ks), .dat (roD r), .own (((rs.take j).map (ren ts tg)).map roD), .dat (.str (if r.tag = "" then "" else tg)), .dat (undL (r.under.map (·.map (tw ts)))), .un] ∧ M3 = M2, ?_, ?_⟩
            · cases hu : r.under with
              | none =>
                simp! [undL]
                rfl
              | some us =>
                obtain ⟨u4, um⟩ := un r hrm us hu
                simp! [undL]
                refine lc_of (g := D.str) (f := fun x => D.str (tw ts x)) (by omega) (fun x hx K N hK => ?_) ?_
                · simp! [dSeq]
                  exact ixk (um x hx) _ hK
                · have em : us.map (fun x => D.str (tw ts x)) = (us.map (tw ts)).map .str := by rw [List.map_map]; rfl
                  rw [em]
                  exact ⟨rfl, rfl⟩
            · rintro ρ M3 ⟨rfl, rfl⟩
              simp! [er, e0, e1, e2, e3]
              refine ixk (tm r hrm) _ ?_
              refine ⟨by simp; omega, .dat (roD r), .dat (.str (if r.tag = "" then "" else tg)), .dat (undL (r.under.map (·.map (tw ts)))), ?_⟩
              rw [List.take_add_one, hr]
              simp [ren, roD]
        · rintro ρ M1 ⟨⟨e4, e6, e7, rfl⟩, rfl⟩
          rw [List.length_map, List.take_length]
          simp! [dSeq]
          exact ⟨M1, leM.refl M1, h2 tg htg⟩
  · exact h.elim

end Z

namespace Z
open PySem L2
local macro_rules | `(tactic| simp! [$xs,*]) => `(tactic| simp only [$xs,*, ↓dSeq, ↓dAsg, ↓dOp, ↓dVar, ↓dVarR, ↓dC, ↓dCall, ↓dCons, ↓dNil, ↓dIf, ↓dRet, ↓dRetN, ↓dTup, ↓dTst, ↓dNeg, ↓dNext, ↓dCB, ↓dLstOf, ↓dLst, ↓dCat, ↓dSlL, ↓dSlS, ↓dONone, ↓dOSome, ↓dList1, ↓dChain, ↓dChain3, ↓dAndT, ↓dOrT, ↓dNotT, ↓dAndV, ↓dOrV, ↓dNotV, ↓dIfE, ↓dTru, ↓dOwn, ↓dAsgG, ↓dPar, ↓dDrop, ↓dAugI, ↓dBreak, ↓dCont, ↓dgName, ↓dgNil, ↓dgCons, ↓dgTup, ↓dFrz, ↓frzE, ↓dItA, ↓dItB, ↓dRng1, ↓dRng2, ↓dEnum, ↓dFor, ↓dSM, ↓dSM0, ↓dRepN, ↓dLc, ↓dYes, ↓wipeE, ↓dStore, ↓dLmut, ↓lmPre, ↓lmAt, ↓isLst, ↓kNx, ↓kSet, ↓lmAppend, ↓lmExtend, ↓lmPop, ↓lmPopAt, ↓lmClear, ↓lmInsert, ↓lmSet, ↓dAugL, ↓dAugS, ↓lmAugS, ↓dMake, ↓dMake0, ↓dMeth, ↓dFld, ↓dSetF, ↓dTry, ↓dTryM, ↓exM, ↓dRaise, ↓endsOf, ↓startE, ↓entOf, ↓ga, ↓pur, ↓dDnew, ↓dDput, ↓dDget, ↓dDsetd, ↓dLmX, ↓dFrzM, ↓dZip, ↓dZipM, ↓dListRev, ↓oListRev, ↓dOrG, ↓dLstM, ↓onDic, ↓onDicR, ↓onLst, ↓obD, ↓dVarP, ↓dItC, ↓onIns, ↓endsW, ↓dLidx, ↓isLD, ↓oIdx, ↓dTake, ↓dLendT, ↓dLendE, ↓lendE, ↓lend1, ↓dFzv, ↓fzv, ↓dStoreX, ↓dLidxD, ↓dGive, ↓dZip3, ↓dListD, ↓drf_int, ↓drf_str, ↓drf_bl, ↓drf_non, ↓drf_lst, ↓drf_tup, ↓drf_obj, ↓drf_dic, ↓drf_cls, ↓drf_exc, ↓drf_ty, ↓drf_ref, ↓drfO_dic, ↓drfO_lst, ↓drfO_ins, ↓drfO_non, ↓oLen_d, ↓oIn_d, ↓oNotIn_d, ↓oIn_dt, ↓oNotIn_dt, ↓kOkB_s, ↓kOkB_i, ↓oAdd_i, ↓oAdd_s, ↓oAdd_t, ↓oAdd_l, ↓oSub_i, ↓oMul_i, ↓oMulW_i, ↓oMulA_i, ↓oMulA_s, ↓oFdiv_i, ↓oMod_i, ↓oPow_i, ↓oLt_i, ↓oLtA_i, ↓oLe_i, ↓oGt_i, ↓oGe_i, ↓oEq_i, ↓oEq_s, ↓oEq_b, ↓oEq_nn, ↓oEq_ni, ↓oEq_in, ↓oEq_ns, ↓oEq_sn, ↓oNe_i, ↓oNe_s, ↓oNe_b, ↓oNe_nn, ↓oNe_ni, ↓oNe_in, ↓oNe_ns, ↓oNe_sn, ↓oIsN_, ↓oNotN_, ↓isNon_int, ↓isNon_str, ↓isNon_bl, ↓isNon_non, ↓isNon_lst, ↓isNon_tup, ↓isNon_obj, ↓isNon_exc, ↓isNon_dic, ↓oLen_s, ↓oLen_l, ↓oLen_t, ↓oAbs_, ↓oMax2_, ↓oMin2_, ↓oMinT_, ↓oMaxT_, ↓oInt1_i, ↓oInt1_b, ↓oInt1_s, ↓oStr1_, ↓oTuple1_l, ↓oTuple1_t, ↓oList1_l, ↓oList1_t, ↓oListD_d, ↓oCat_l, ↓truD_n, ↓truD_b, ↓truD_i, ↓truD_s, ↓truD_l, ↓truD_t, ↓onStr_s, ↓soStarts_, ↓soUpper_, ↓soLower_, ↓soIsupper_, ↓soFind_, ↓soStrip_, ↓soPart_, ↓soSplit_, ↓soJoin_l, ↓soJoin_t, ↓oSlL_l, ↓oSlS_l, ↓oSlS_t, ↓oSlS_s, ↓isi_int_int, ↓isi_int_str, ↓isi_int_bool, ↓isi_int_NoneType, ↓isi_int_list, ↓isi_int_tuple, ↓isi_bool_int, ↓isi_bool_str, ↓isi_bool_bool, ↓isi_bool_NoneType, ↓isi_bool_list, ↓isi_bool_tuple, ↓isi_tuple_int, ↓isi_tuple_str, ↓isi_tuple_bool, ↓isi_tuple_NoneType, ↓isi_tuple_list, ↓isi_tuple_tuple, ↓isi_str_int, ↓isi_str_str, ↓isi_str_bool, ↓isi_str_NoneType, ↓isi_str_list, ↓isi_str_tuple, ↓isi_list_int, ↓isi_list_str, ↓isi_list_bool, ↓isi_list_NoneType, ↓isi_list_list, ↓isi_list_tuple, ↓oIx_t0, ↓oIx_l0, ↓oIx_t1, ↓oIx_l1, ↓oIx_t2, ↓oIx_l2, ↓oIx_t3, ↓oIx_l3, ↓oIx_t4, ↓oIx_l4, ↓oIx_t5, ↓oIx_l5, ↓oIx_f0, ↓oIx_f1, ↓drf_fD, ↓oLen_f, ↓isi_tuple_f, ↓isi_int_f, ↓eq_fD, ↓ne_fD, ofS_inj, mem_ofS, mem_ofS0, putD_nil, putD_cons, updM_same, String.reduceEq, Nat.reduceLT, true_or, or_true, false_or, or_false, true_and, and_true, false_and, and_false, List.set_cons_zero, List.set_cons_succ, List.map_cons, List.map_nil, if_true, if_false, Bool.false_eq_true, decide_eq_true_eq, List.length_cons, List.length_nil, Int.reduceNe, Int.reduceLT, Int.reduceLE, Int.reduceEq, Int.reduceToNat, Int.reducePow, Int.reduceNeg, Int.reduceAdd, Int.reduceMul, Int.reduceSub, Nat.reduceAdd, Nat.reduceLeDiff, Nat.reduceEqDiff, Int.cast_ofNat_Int, Bool.true_eq_false, ite_not, sizeLine_eq, true_and, and_true, and_self, Int.fmod_eq_emod_of_nonneg, Int.fdiv_eq_ediv_of_nonneg, Bool.not_true, Bool.not_false, Bool.not_eq_true', decide_eq_false_iff_not, decide_true, decide_false])

/-! ### texts with other weights and blank lines -/
theorem name_nl {w : Str} (h : nameB w = true) : 10 ∉ cs w := fun hm => by
  unfold nameB at h
  rw [Bool.and_eq_true, List.all_eq_true] at h
  have := h.2 10 hm
  revert this
  decide
theorem int_nl (a : Int) : 10 ∉ intL a := by
  have hd := TL.numL_free (n := a.natAbs) (s := 10) (by decide)
  unfold intL
  split
  · simp [hd]
  · exact hd
theorem num_nl (n : Nat) : 10 ∉ TL.numL n := TL.numL_free (n := n) (s := 10) (by decide)
theorem num_sp (n : Nat) : 32 ∉ TL.numL n := TL.numL_free (n := n) (s := 32) (by decide)
structure TopOk (p : Rat) (t : Str) : Prop where
  w : okW t
  nl : 10 ∉ cs t
  rd : readL (cs t) = some p
theorem topS_ok {p : Rat} {b : Int} (h : fits 60 p) (b1 : 1 ≤ b) (b9 : b ≤ 9) : TopOk p (topS p b) := by
  have d0 := p.den_pos
  have nb : (p.num * b).natAbs < 2 ^ 64 := by
    have h1 := h.1
    rw [Int.natAbs_mul]
    have : p.num.natAbs * b.natAbs ≤ 2 ^ 60 * 9 := Nat.mul_le_mul (by omega) (by omega)
    omega
  have db : ((p.den : Int) * b).toNat < 2 ^ 64 ∧ 1 ≤ ((p.den : Int) * b).toNat ∧ ((((p.den : Int) * b).toNat : Nat) : Int) = (p.den : Int) * b := by
    have h1 := h.2
    have h2 : (p.den : Int) * b ≤ 2 ^ 60 * 9 := Int.mul_le_mul (by omega) b9 (by omega) (by decide)
    have h3 : (1 : Int) * 1 ≤ (p.den : Int) * b := Int.mul_le_mul (by omega) b1 (by decide) (by omega)
    omega
  have lt : ∀ {n : Nat}, n < 2 ^ 64 → n < 10 ^ 40 := fun h => Nat.lt_of_lt_of_le h (by decide)
  have lt2 : ∀ {n : Nat}, n < 2 ^ 64 → n < 10 ^ 62 := fun h => Nat.lt_of_lt_of_le h (by decide)
  obtain ⟨i1, i2, i3⟩ := int_okL (p.num * b) (k := 62) (by decide) (lt2 nb)
  have l1 := TL.numL_len (n := ((p.den : Int) * b).toNat) (k := 62) (by decide) (lt2 db.1)
  have l2 := num_sp ((p.den : Int) * b).toNat
  have key : Rat.divInt (p.num * b) ((p.den : Int) * b) = p := by
    rw [Rat.divInt_mul_right (by omega)]
    exact Rat.num_divInt_den p
  unfold topS
  split
  · refine ⟨?_, ?_, ?_⟩
    · unfold okW
      rw [cs_mkS]
      refine ⟨fun hm => ?_, by simp, ?_⟩
      · rcases List.mem_append.mp hm with hm | hm
        · exact i1 hm
        · rcases List.mem_cons.mp hm with e | hm
          · cases e
          · exact l2 hm
      · rw [List.length_append, List.length_cons]; omega
    · rw [cs_mkS]
      intro hm
      rcases List.mem_append.mp hm with hm | hm
      · exact int_nl _ hm
      · rcases List.mem_cons.mp hm with e | hm
        · cases e
        · exact num_nl _ hm
    · rw [cs_mkS, readL_frac (lt nb) (lt db.1) db.2.1, db.2.2, key]
  · rename_i z
    have b1' : b = 1 := by omega
    have d1 : p.den = 1 := by omega
    refine ⟨?_, ?_, ?_⟩
    · unfold okW
      rw [cs_mkS]
      exact ⟨i1, i2, by omega⟩
    · rw [cs_mkS]
      exact int_nl _
    · rw [cs_mkS, readL_whole (lt nb)]
      rw [d1, b1'] at key
      rw [b1']
      exact congrArg some key
theorem topS_one {p : Rat} : topS p 1 = fracS p := by
  have d0 := p.den_pos
  rw [frac_over]
  unfold topS overL
  rw [Int.mul_one, Int.mul_one, Int.toNat_natCast]
  by_cases z : p.den = 1
  · rw [if_pos z, if_neg (by omega)]
  · rw [if_neg z, if_pos (by omega)]
theorem lit_nl : ∀ w ∈ [Str.ofString "rule", Str.ofString "->", Str.ofString ":", Str.ofString "tag", Str.ofString "under", Str.ofString "scale", Str.ofString "start"], 10 ∉ cs w := by decide +kernel
theorem RuT.nl {r : Ru} (h : RuT r) {top : Str} (ht : 10 ∉ cs top) : ∀ w ∈ lineW top r, 10 ∉ cs w := fun w hw => by
  have g := h.gd
  unfold ruGood at g
  simp only [Bool.and_eq_true] at g
  obtain ⟨g1, g2, g3, g4, g5⟩ := g
  obtain ⟨l1, l4, pn⟩ := ru_parts h.gd
  unfold lineW at hw
  simp only [List.mem_append, List.mem_cons, List.not_mem_nil, or_false] at hw
  rcases hw with (((((rfl | rfl | rfl | rfl) | hw) | (rfl | rfl)) | hw) | hw)
  · exact lit_nl _ (by simp)
  · exact name_nl (word_name g1)
  · exact name_nl (kind_name g2)
  · exact lit_nl _ (by simp)
  · exact name_nl (pn w hw)
  · exact lit_nl _ (by simp)
  · exact ht
  · unfold tagW at hw
    split at hw
    · cases hw
    · rename_i z
      simp only [List.mem_cons, List.not_mem_nil, or_false] at hw
      rcases hw with rfl | rfl
      · exact lit_nl _ (by simp)
      · unfold tagB at g4
        rw [Bool.or_eq_true, decide_eq_true_eq] at g4
        exact name_nl (word_name (g4.resolve_left z))
  · unfold undW at hw
    cases hu : r.under with
    | none => rw [hu] at hw; cases hw
    | some us =>
      rw [hu] at hw g5
      rcases List.mem_cons.mp hw with rfl | hw
      · exact lit_nl _ (by simp)
      · unfold underB at g5
        simp only [Bool.and_eq_true, List.all_eq_true] at g5
        exact name_nl (word_name (g5.2 w hw))
/-- a line of words that begins with a word -/
theorem line_ok {w0 : Str} {ws : List Str} (h : lnW (w0 :: ws)) (hn : ∀ w ∈ w0 :: ws, 10 ∉ cs w) : lnOk (joinW (w0 :: ws)) ∧ blankB (joinW (w0 :: ws)) = false ∧ (joinW (w0 :: ws)).length ≤ 20100 := by
  have hl := h.len
  obtain ⟨h32, hne, _⟩ := h.2.2 w0 (by simp)
  obtain ⟨c, r, hc⟩ : ∃ c r, cs (joinW (w0 :: ws)) = c :: r ∧ c ≠ 32 := by
    cases hw : cs w0 with
    | nil => exact absurd hw hne
    | cons c r =>
      have c32 : c ≠ 32 := fun e => h32 (by rw [hw, e]; simp)
      rw [cs_joinW, List.map_cons, hw]
      cases ws with
      | nil => exact ⟨c, r, rfl, c32⟩
      | cons v vs => exact ⟨c, _, rfl, c32⟩
  refine ⟨⟨?_, ?_, .inr ⟨c, r, hc⟩⟩, ?_, hl⟩
  · unfold sz
    rw [← len_cs]; omega
  · rw [cs_joinW]
    intro hm
    rcases joinL_mem 32 10 _ hm with e | ⟨p, hp, hq⟩
    · cases e
    · obtain ⟨w, hw, rfl⟩ := List.mem_map.mp hp
      exact hn w hw hq
  · unfold blankB
    refine decide_eq_false fun hm => ?_
    simp only [List.mem_cons, List.not_mem_nil, or_false] at hm
    have b0 : cs (Str.ofString "") = [] := cs_empty
    have b1 : cs (Str.ofString " ") = [32] := cs_spc
    have b3 : cs (Str.ofString "   ") = [32, 32, 32] := by decide +kernel
    rcases hm with e | e | e
    · rw [e, b0] at hc; cases hc.1
    · rw [e, b1] at hc
      injection hc.1 with e1 _
      exact hc.2 e1.symm
    · rw [e, b3] at hc
      injection hc.1 with e1 _
      exact hc.2 e1.symm
def PtOk (ps : List (Ru × Str)) : Prop := ps.length ≤ 11 ∧ ∀ p ∈ ps, RuT p.1 ∧ TopOk p.1.weight p.2
theorem PtOk.ps {ps : List (Ru × Str)} (h : PtOk ps) : PsOk ps := ⟨by have := h.1; omega, fun p hp => ⟨(h.2 p hp).1, (h.2 p hp).2.w, (h.2 p hp).2.rd⟩⟩
theorem wssL_line {w k : Str} {ps : List (Ru × Str)} (hw : nameB w = true) (hk : nameB k = true) (hp : PtOk ps) : ∀ ws ∈ wssL w k ps, lnOk (joinW ws) ∧ blankB (joinW ws) = false ∧ (joinW ws).length ≤ 20100 := fun ws h => by
  have ok := wssL_ok (name_okW hw) (name_okW hk) hp.ps ws h
  unfold wssL at h
  rcases List.mem_cons.mp h with rfl | h
  · refine line_ok ok fun v hv => ?_
    simp only [List.mem_cons, List.not_mem_nil, or_false] at hv
    rcases hv with rfl | rfl
    · exact lit_nl _ (by simp)
    · exact name_nl hw
  rcases List.mem_cons.mp h with rfl | h
  · refine line_ok ok fun v hv => ?_
    simp only [List.mem_cons, List.not_mem_nil, or_false] at hv
    rcases hv with rfl | rfl
    · exact lit_nl _ (by simp)
    · exact name_nl hk
  · obtain ⟨p, hm, rfl⟩ := List.mem_map.mp h
    obtain ⟨h1, h2⟩ := hp.2 p hm
    have nl := h1.nl h2.nl
    exact line_ok (w0 := Str.ofString "rule") (ws := ([p.1.title, p.1.head, Str.ofString "->"] ++ p.1.parts ++ [Str.ofString ":", p.2]) ++ tagW p.1 ++ undW p.1) ok nl
def blanks : List Str := [Str.ofString "", Str.ofString " ", Str.ofString "   "]
theorem blank_ok : ∀ x ∈ blanks, blankB x = true ∧ 10 ∉ cs x ∧ x.length ≤ 3 := by decide +kernel
/-- lines of a grammar with blank ones between -/
def More (w k : Str) (ps : List (Ru × Str)) (L : List Str) : Prop := L.filter (fun l => !blankB l) = (wssL w k ps).map joinW ∧ L.length ≤ 3 + 4 * ps.length ∧ L ≠ []
theorem More.fin {w k : Str} {ps : List (Ru × Str)} {L : List Str} (m : More w k ps L) (hw : nameB w = true) (hk : nameB k = true) (hp : PtOk ps) : (∀ l ∈ L, lnOk l ∧ l.length ≤ 20100) ∧ L.length ≤ 47 := by
  refine ⟨fun l hl => ?_, by have := m.2.1; have := hp.1; omega⟩
  by_cases z : blankB l = true
  · obtain ⟨h1, h2, h3⟩ := blank_ok l (of_decide_eq_true z)
    refine ⟨⟨?_, h2, .inl z⟩, by omega⟩
    unfold sz
    rw [← len_cs]; omega
  · have hf : l ∈ L.filter (fun l => !blankB l) := List.mem_filter.mpr ⟨hl, by simp [z]⟩
    rw [m.1] at hf
    obtain ⟨ws, hws, rfl⟩ := List.mem_map.mp hf
    obtain ⟨h1, _, h3⟩ := wssL_line hw hk hp ws hws
    exact ⟨h1, h3⟩
theorem More.step {w k : Str} {ps : List (Ru × Str)} {L bl : List Str} {p : Ru × Str} (m : More w k ps L) (hb : blankB (joinW (lineW p.2 p.1)) = false) (h3 : bl.length ≤ 3) (hbl : ∀ x ∈ bl, x ∈ blanks) : More w k (ps ++ [p]) (L ++ [joinW (lineW p.2 p.1)] ++ bl) := by
  obtain ⟨h1, h2, _⟩ := m
  refine ⟨?_, by simp only [List.length_append, List.length_singleton]; omega, by simp⟩
  rw [List.filter_append, List.filter_append, h1]
  have e1 : [joinW (lineW p.2 p.1)].filter (fun l => !blankB l) = [joinW (lineW p.2 p.1)] := by simp [hb]
  have e2 : bl.filter (fun l => !blankB l) = [] := List.filter_eq_nil_iff.mpr fun x hx => by simp [(blank_ok x (hbl x hx)).1]
  rw [e1, e2]
  unfold wssL
  simp
theorem More.init {w k : Str} (hw : nameB w = true) (hk : nameB k = true) : More w k [] (Str.ofString "" :: headL w k) := by
  have hp : PtOk [] := ⟨by simp, fun p hp => (nomatch hp)⟩
  have l := wssL_line hw hk hp
  have a := (l [("scale" : Str), w] (by simp [wssL])).2.1
  have b := (l [("start" : Str), k] (by simp [wssL])).2.1
  have c := (blank_ok (Str.ofString "") (by simp [blanks])).1
  refine ⟨?_, by simp [headL], by simp⟩
  unfold headL
  rw [List.filter_cons_of_neg (by rw [c]; decide), List.filter_cons_of_pos (by rw [a]; rfl), List.filter_cons_of_pos (by rw [b]; rfl)]
  rfl
def plain (rs : List Ru) : List (Ru × Str) := rs.map fun r => (r, fracS r.weight)
theorem plain_ok {rs : List Ru} (hl : rs.length ≤ 11) (h : ∀ r ∈ rs, RuT r) : PtOk (plain rs) := by
  refine ⟨by unfold plain; rw [List.length_map]; exact hl, fun p hp => ?_⟩
  obtain ⟨r, hr, rfl⟩ := List.mem_map.mp hp
  have := topS_ok (h r hr).ft (b := 1) (by decide) (by decide)
  rw [topS_one] at this
  exact ⟨h r hr, this⟩
theorem plain_fst (rs : List Ru) : (plain rs).map (·.1) = rs := by
  unfold plain
  rw [List.map_map]
  exact List.map_id'' (fun _ => rfl) rs
theorem plain_more {w k : Str} {rs : List Ru} (hw : nameB w = true) (hk : nameB k = true) (hl : rs.length ≤ 11) (h : ∀ r ∈ rs, RuT r) : More w k (plain rs) (gramL w k rs) := by
  have hp := plain_ok hl h
  have e : gramL w k rs = (wssL w k (plain rs)).map joinW := by
    unfold gramL headL wssL plain lineS
    simp
  refine ⟨?_, by rw [e, List.length_map]; unfold wssL; simp; omega, by unfold gramL headL; simp⟩
  rw [e, List.filter_eq_self.mpr]
  intro l hl
  obtain ⟨ws, hws, rfl⟩ := List.mem_map.mp hl
  rw [(wssL_line hw hk hp ws hws).2.1]; rfl
theorem cs_joinN (ws : List Str) : cs (joinN ws) = TL.joinL [10] (ws.map cs) := by
  unfold joinN
  rw [TL.join_eq]
  have := TL.tl_join (Str.ofString "\n") ws
  rw [show TL.tl (Str.ofString "\n") = [10] from cs_nl] at this
  exact this
theorem joinN_len {ls : List Str} (hl : ls.length ≤ 47) (h : ∀ l ∈ ls, l.length ≤ 20100) : (joinN ls).length ≤ 16000000 := by
  rw [len_cs, cs_joinN]
  have h1 := joinL_len 10 (ls.map cs)
  have h2 : ∀ l : List Str, (∀ w ∈ l, w.length ≤ 20100) → ((l.map cs).map fun p => p.length + 1).sum ≤ 20101 * l.length := fun l => by
    induction l with
    | nil => intro _; simp
    | cons w l ih =>
      intro hl
      have := ih fun v hv => hl v (by simp [hv])
      have h3 := hl w (by simp)
      rw [len_cs] at h3
      simp only [List.map_cons, List.sum_cons, List.length_cons]
      omega
  have := h2 ls h
  omega

end Z

namespace Z
open PySem L2
local macro_rules | `(tactic| simp! [$xs,*]) => `(tactic| simp only [$xs,*, ↓dSeq, ↓dAsg, ↓dOp, ↓dVar, ↓dVarR, ↓dC, ↓dCall, ↓dCons, ↓dNil, ↓dIf, ↓dRet, ↓dRetN, ↓dTup, ↓dTst, ↓dNeg, ↓dNext, ↓dCB, ↓dLstOf, ↓dLst, ↓dCat, ↓dSlL, ↓dSlS, ↓dONone, ↓dOSome, ↓dList1, ↓dChain, ↓dChain3, ↓dAndT, ↓dOrT, ↓dNotT, ↓dAndV, ↓dOrV, ↓dNotV, ↓dIfE, ↓dTru, ↓dOwn, ↓dAsgG, ↓dPar, ↓dDrop, ↓dAugI, ↓dBreak, ↓dCont, ↓dgName, ↓dgNil, ↓dgCons, ↓dgTup, ↓dFrz, ↓frzE, ↓dItA, ↓dItB, ↓dRng1, ↓dRng2, ↓dEnum, ↓dFor, ↓dSM, ↓dSM0, ↓dRepN, ↓dLc, ↓dYes, ↓wipeE, ↓dStore, ↓dLmut, ↓lmPre, ↓lmAt, ↓isLst, ↓kNx, ↓kSet, ↓lmAppend, ↓lmExtend, ↓lmPop, ↓lmPopAt, ↓lmClear, ↓lmInsert, ↓lmSet, ↓dAugL, ↓dAugS, ↓lmAugS, ↓dMake, ↓dMake0, ↓dMeth, ↓dFld, ↓dSetF, ↓dTry, ↓dTryM, ↓exM, ↓dRaise, ↓endsOf, ↓startE, ↓entOf, ↓ga, ↓pur, ↓dDnew, ↓dDput, ↓dDget, ↓dDsetd, ↓dLmX, ↓dFrzM, ↓dZip, ↓dZipM, ↓dListRev, ↓oListRev, ↓dOrG, ↓dLstM, ↓onDic, ↓onDicR, ↓onLst, ↓obD, ↓dVarP, ↓dItC, ↓onIns, ↓endsW, ↓dLidx, ↓isLD, ↓oIdx, ↓dTake, ↓dLendT, ↓dLendE, ↓lendE, ↓lend1, ↓dFzv, ↓fzv, ↓dStoreX, ↓dLidxD, ↓dGive, ↓dZip3, ↓dListD, ↓drf_int, ↓drf_str, ↓drf_bl, ↓drf_non, ↓drf_lst, ↓drf_tup, ↓drf_obj, ↓drf_dic, ↓drf_cls, ↓drf_exc, ↓drf_ty, ↓drf_ref, ↓drfO_dic, ↓drfO_lst, ↓drfO_ins, ↓drfO_non, ↓oLen_d, ↓oIn_d, ↓oNotIn_d, ↓oIn_dt, ↓oNotIn_dt, ↓kOkB_s, ↓kOkB_i, ↓oAdd_i, ↓oAdd_s, ↓oAdd_t, ↓oAdd_l, ↓oSub_i, ↓oMul_i, ↓oMulW_i, ↓oMulA_i, ↓oMulA_s, ↓oFdiv_i, ↓oMod_i, ↓oPow_i, ↓oLt_i, ↓oLtA_i, ↓oLe_i, ↓oGt_i, ↓oGe_i, ↓oEq_i, ↓oEq_s, ↓oEq_b, ↓oEq_nn, ↓oEq_ni, ↓oEq_in, ↓oEq_ns, ↓oEq_sn, ↓oNe_i, ↓oNe_s, ↓oNe_b, ↓oNe_nn, ↓oNe_ni, ↓oNe_in, ↓oNe_ns, ↓oNe_sn, ↓oIsN_, ↓oNotN_, ↓isNon_int, ↓isNon_str, ↓isNon_bl, ↓isNon_non, ↓isNon_lst, ↓isNon_tup, ↓isNon_obj, ↓isNon_exc, ↓isNon_dic, ↓oLen_s, ↓oLen_l, ↓oLen_t, ↓oAbs_, ↓oMax2_, ↓oMin2_, ↓oMinT_, ↓oMaxT_, ↓oInt1_i, ↓oInt1_b, ↓oInt1_s, ↓oStr1_, ↓oTuple1_l, ↓oTuple1_t, ↓oList1_l, ↓oList1_t, ↓oListD_d, ↓oCat_l, ↓truD_n, ↓truD_b, ↓truD_i, ↓truD_s, ↓truD_l, ↓truD_t, ↓onStr_s, ↓soStarts_, ↓soUpper_, ↓soLower_, ↓soIsupper_, ↓soFind_, ↓soStrip_, ↓soPart_, ↓soSplit_, ↓soJoin_l, ↓soJoin_t, ↓oSlL_l, ↓oSlS_l, ↓oSlS_t, ↓oSlS_s, ↓isi_int_int, ↓isi_int_str, ↓isi_int_bool, ↓isi_int_NoneType, ↓isi_int_list, ↓isi_int_tuple, ↓isi_bool_int, ↓isi_bool_str, ↓isi_bool_bool, ↓isi_bool_NoneType, ↓isi_bool_list, ↓isi_bool_tuple, ↓isi_tuple_int, ↓isi_tuple_str, ↓isi_tuple_bool, ↓isi_tuple_NoneType, ↓isi_tuple_list, ↓isi_tuple_tuple, ↓isi_str_int, ↓isi_str_str, ↓isi_str_bool, ↓isi_str_NoneType, ↓isi_str_list, ↓isi_str_tuple, ↓isi_list_int, ↓isi_list_str, ↓isi_list_bool, ↓isi_list_NoneType, ↓isi_list_list, ↓isi_list_tuple, ↓oIx_t0, ↓oIx_l0, ↓oIx_t1, ↓oIx_l1, ↓oIx_t2, ↓oIx_l2, ↓oIx_t3, ↓oIx_l3, ↓oIx_t4, ↓oIx_l4, ↓oIx_t5, ↓oIx_l5, ↓oIx_f0, ↓oIx_f1, ↓drf_fD, ↓oLen_f, ↓isi_tuple_f, ↓isi_int_f, ↓eq_fD, ↓ne_fD, ofS_inj, mem_ofS, mem_ofS0, putD_nil, putD_cons, updM_same, String.reduceEq, Nat.reduceLT, true_or, or_true, false_or, or_false, true_and, and_true, false_and, and_false, List.set_cons_zero, List.set_cons_succ, List.map_cons, List.map_nil, if_true, if_false, Bool.false_eq_true, decide_eq_true_eq, List.length_cons, List.length_nil, Int.reduceNe, Int.reduceLT, Int.reduceLE, Int.reduceEq, Int.reduceToNat, Int.reducePow, Int.reduceNeg, Int.reduceAdd, Int.reduceMul, Int.reduceSub, Nat.reduceAdd, Nat.reduceLeDiff, Nat.reduceEqDiff, Int.cast_ofNat_Int, Bool.true_eq_false, ite_not, sizeLine_eq, true_and, and_true, and_self, Int.fmod_eq_emod_of_nonneg, Int.fdiv_eq_ediv_of_nonneg, Bool.not_true, Bool.not_false, Bool.not_eq_true', decide_eq_false_iff_not, decide_true, decide_false])
def t_law_k12 (p_l_mix : SpM) (p_l_at : SpM) (p_l_wild_rows_k11 : SpM) (p_l_own_words : SpM) (p_l_line : SpM) (p_grammar_text : SpM) (p_read_grammar : SpM) (p_l_kept : SpM) (p_Rule_init : SpM) (p_Grammar_init : SpM) : DTS :=
 (dSeq (dAsg 1 (dCall p_l_mix (dCons (dCall p_l_at (dCons (dVar 0) (dCons (dC (.int 0)) dNil))) (dCons (dC (.int 6)) dNil))))
 (dCut (dAsg 2 (dOp oIx (dTup (dCons (dC (.str "cost")) (dCons (dC (.str "chance")) dNil))) (dOp oMod (dVarR 1) (dC (.int 2)))))
 (dSeq (dAsg 3 (dCall p_l_wild_rows_k11 (dCons (dVar 0) (dCons (dC (.int 0)) (dCons (dVar 2) dNil)))))
 (dSeq (dAsg 4 (dOp oIx (dOp oIx (dVarR 3) (dC (.int 0))) (dC (.int 0))))
 (dSeq (dAsg 5 (dCall p_l_own_words (dCons (dOp oIx (dVarR 3) (dC (.int 1))) (dCons (dOp oFdiv (dVarR 1) (dC (.int 2))) dNil))))
 (dCut (dIf (dTst (dOp oEq (dVarR 5) (dLstOf (dLst dNil)))) (dAsg 5 (dLstOf (dLst (dCons (dTup (dCons (dC (.str "under")) (dCons (dVar 4) (dCons (dLstOf (dLst (dCons (dC (.str "tag")) (dCons (dC (.str "rule")) dNil)))) (dCons (dTup (dCons (dC (.int 3)) (dCons (dC (.int 4)) dNil))) (dCons (dC (.str "under")) (dCons (dLstOf (dLst (dCons (dC (.str "under")) (dCons (dC (.str "under")) dNil)))) dNil))))))) dNil)))) dNext)
 (dSeq (dAsg 6 (dLstOf (dLc (dItA (dVar 5)) (dgName 10) dYes (dMake "Rule" [] p_Rule_init (dCons (dOp oIx (dVarR 10) (dC (.int 0))) (dCons (dOp oIx (dVarR 10) (dC (.int 1))) (dCons (dOp oIx (dVarR 10) (dC (.int 2))) (dCons (dOp oIx (dVarR 10) (dC (.int 3))) (dCons (dOp oIx (dVarR 10) (dC (.int 4))) (dCons (dOp oIx (dVarR 10) (dC (.int 5))) dNil))))))) [10])))
 (dSeq (dOwn 7 (dLst (dCons (dOp oAdd (dC (.str "scale ")) (dVarR 2)) (dCons (dOp oAdd (dC (.str "start ")) (dVarR 4)) dNil))))
 (dSeq (dOwn 8 (dLst (dCons (dC (.str "")) (dCons (dOp oAdd (dC (.str "scale ")) (dVarR 2)) (dCons (dOp oAdd (dC (.str "start ")) (dVarR 4)) dNil)))))
 (dSeq (dFor (dEnum (dCons (dVar 5) dNil)) (dgTup 2 (dgCons (dgName 9) (dgCons (dgName 10) dgNil))) (dSeq (dLmut lmAppend 7 (dCons (dCall p_l_line (dCons (dVar 10) (dCons (dC (.int 1)) dNil))) dNil) kNx)
 (dSeq (dLmut lmAppend 8 (dCons (dCall p_l_line (dCons (dVar 10) (dCons (dOp oAdd (dC (.int 1)) (dOp oMod (dOp oAdd (dOp oFdiv (dVarR 1) (dC (.int 8))) (dOp oMulA (dVarR 9) (dVarR 9))) (dC (.int 9)))) dNil))) dNil) kNx)
 (fun DD ρ M => lmPre ρ M 8 ∧ dAugL 8 (dSlS (dLstOf (dLst (dCons (dC (.str "")) (dCons (dC (.str " ")) (dCons (dC (.str "   ")) dNil))))) dONone (dOSome (dOp oMod (dOp oAdd (dOp oFdiv (dVarR 1) (dC (.int 72))) (dVarR 9)) (dC (.int 4))))) DD ρ M))))
 (dSeq (dAsg 11 (dCall p_grammar_text (dCons (dMake "Grammar" [] p_Grammar_init (dCons (dVar 2) (dCons (dVar 4) (dCons (dVarR 6) dNil)))) dNil)))
 (dSeq (dIf (dOrT (dNotT (dTru (dCB (oIsi "str") (dCons (dVarR 11) (dCons (dC (.ty "str")) dNil))))) (dTst (dOp oNe (dVarR 11) (dSM soJoin (dC (.str "\n")) (dCons (dVarR 7) dNil))))) (dRet (dC (.bl false))) dNext)
 (dSeq (dAsg 12 (dCall p_read_grammar (dCons (dVar 11) dNil)))
 (dSeq (dAsg 13 (dCall p_read_grammar (dCons (dSM soJoin (dC (.str "\n")) (dCons (dVarR 8) dNil)) dNil)))
 (dSeq (dIf (dOrT (dNotT (dTru (dCall p_l_kept (dCons (dVar 13) (dCons (dVar 2) (dCons (dVar 4) (dCons (dVar 5) dNil))))))) (dTst (dOp oNe (dCall p_grammar_text (dCons (dVar 13) dNil)) (dVarR 11)))) (dRet (dC (.bl false))) dNext)
 (dRet (dAndV (dCall p_l_kept (dCons (dVar 12) (dCons (dVar 2) (dCons (dVar 4) (dCons (dVar 5) dNil))))) (dOp oEq (dCall p_grammar_text (dCons (dVar 12) dNil)) (dVarR 11)))))))))))))))))))

def t_is_name_k12 : DTS :=
 (dSeq (dIf (dNotT (dTst (dChain oLe oLe (dC (.int 1)) (dCB oLen (dCons (dVarR 0) dNil)) (dC (.int 12))))) (dRet (dC (.bl false))) dNext)
 (dSeq (dFor (dItA (dVar 0)) (dgName 1) (dIf (dAndT (dTst (dOp oNotIn (dVarR 1) (dC (.str "abcdefghijklmnopqrstuvwxyz")))) (dAndT (dTst (dOp oNotIn (dVarR 1) (dC (.str "ABCDEFGHIJKLMNOPQRSTUVWXYZ")))) (dTst (dOp oNotIn (dVarR 1) (dC (.str "0123456789")))))) (dRet (dC (.bl false))) dNext))
 (dRet (dC (.bl true)))))

def t_are_figures_k12 : DTS :=
 (dSeq (dIf (dNotT (dTst (dChain oLe oLe (dC (.int 1)) (dCB oLen (dCons (dVarR 0) dNil)) (dC (.int 40))))) (dRet (dC (.bl false))) dNext)
 (dSeq (dFor (dItA (dVar 0)) (dgName 1) (dIf (dTst (dOp oNotIn (dVarR 1) (dC (.str "0123456789")))) (dRet (dC (.bl false))) dNext))
 (dRet (dOrV (dOp oEq (dVarR 0) (dC (.str "0"))) (dNotV (dSM soStarts (dVarR 0) (dCons (dC (.str "0")) dNil)))))))

theorem Wild.ot {c : Bool} {ks : List Str} {rs : List Ru} (s : Wild 0 (wordS c) ks rs) : Ot rs := ⟨s.rl, s.ti (by decide) (by decide), fun r hr => (s.ru r hr).1, fun r hr us hu => ⟨s.ul r hr us hu, s.un (by decide) (by decide) (by decide) r hr us hu⟩⟩
def r12 (ns : List Int) (n : Int) (c : Bool) (ks : List Str) (rw' : List Ru) (k0 : Str) (rs : List Ru) (e6 e7 e8 e9 e10 e11 e12 e13 : Ent) : List Ent :=
  [.dat (.lst (ns.map .int)), .dat (.int n), .dat (.str (wordS c)), .dat (.tup [.lst (ks.map .str), .lst (rw'.map roD)]), .dat (.str k0), .dat (.lst (rs.map roD)), e6, e7, e8, e9, e10, e11, e12, e13]
theorem und_roD (k0 : Str) : D.tup [.str (Str.ofString "under"), .str k0, .lst [.str (Str.ofString "tag"), .str (Str.ofString "rule")], .tup [.int 3, .int 4], .str (Str.ofString "under"), .lst [.str (Str.ofString "under"), .str (Str.ofString "under")]] = roD (undRow k0) := by
  unfold roD undRow fD undL
  have e1 : (Rat.divInt 3 4).num = 3 := by decide +kernel
  have e2 : (Rat.divInt 3 4).den = 4 := by decide +kernel
  dsimp only
  rw [e1, e2]
  rfl
theorem own_any {rw' : List Ru} {n : Int} {K : D → Prop} {E : Str → Prop} {P : List Ru → Prop} (ot : Ot rw') (n0 : 0 ≤ n) (n1 : n < 2 ^ 62) (p1 : P rw') (p2 : ∀ tg ∈ someW, P (rw'.map (ren (titlesOf rw') tg))) (hK : ∀ rs2, P rs2 → K (.lst (rs2.map roD))) : sp_l_own_words [.lst (rw'.map roD), .int n] K E := ⟨rw', rfl, n0, n1, ot, hK _ p1, fun tg h => hK _ (p2 tg h)⟩
theorem cut_blank {m : Int} (h0 : 0 ≤ m) : ∃ bl : List Str, cutD [D.str (Str.ofString ""), D.str (Str.ofString " "), D.str (Str.ofString "   ")] none (some m) = bl.map .str ∧ bl.length ≤ 3 ∧ ∀ x ∈ bl, x ∈ blanks := by
  obtain ⟨k, rfl⟩ : ∃ k : Nat, m = k := ⟨m.toNat, by omega⟩
  refine ⟨blanks.take k, ?_, ?_, fun x hx => List.mem_of_mem_take hx⟩
  · show cutD (blanks.map .str) none (some (k : Int)) = _
    rw [cut_map, HT.sIx_none, List.drop_zero, HT.sIx_nat, Nat.sub_zero]
    congr 1
    by_cases z : k ≤ blanks.length
    · rw [Nat.min_eq_left z]
    · rw [Nat.min_eq_right (by omega), List.take_of_length_le (by omega), List.take_of_length_le (by omega)]
  · rw [List.length_take]
    show min k 3 ≤ 3
    omega
theorem r_law_k12 (ds M Q E) (h : spLaw ds M Q E) : t_law_k12 (pur sp_l_mix) (pur sp_l_at) (pur sp_l_wild_rows_k11) (pur sp_l_own_words) (pur sp_l_line) (pur sp_grammar_text) sp_read_grammar (pur sp_l_kept) sp_Rule_init sp_Grammar_init (endsOf Q E) (startE [false] 14 ds) M := by
  obtain ⟨ns, rfl, hl, h⟩ := h
  have k6 : kOk 6 := ⟨by decide, by decide⟩
  have s2 : Sm 2 := sm_lit (by decide) (by decide)
  simp! [t_law_k12, e_l_at, sp_l_mix, k6]
  generalize hn : mix (ns.getD 0 0) 6 = n
  have n0 : 0 ≤ n := by rw [← hn]; exact mix_lo _ _
  have n1 : n < 1999999973 := by rw [← hn]; exact mix_hi _ _
  refine ⟨fun ρ M1 => (∃ c, ρ = [.dat (.lst (ns.map .int)), .dat (.int n), .dat (.str (wordS c)), .un, .un, .un, .un, .un, .un, .un, .un, .un, .un, .un]) ∧ M1 = M, ?_, ?_⟩
  · simp! [n0, s2]
    refine ixT_all (P := fun d => ∃ c, d = .str (wordS c)) (by omega) (by show _ < (2 : Int); omega) (fun d hd => ?_) fun d hd => ?_
    · simp only [List.mem_cons, List.not_mem_nil, or_false] at hd
      rcases hd with rfl | rfl
      · exact ⟨false, rfl⟩
      · exact ⟨true, rfl⟩
    · obtain ⟨c, rfl⟩ := hd
      exact ⟨c, rfl⟩
  rintro ρ M1 ⟨⟨c, rfl⟩, rfl⟩
  simp! [dSeq]
  refine ⟨ns, rfl, hl, fun ks rw' wd => ?_⟩
  obtain ⟨k0, hk0⟩ : ∃ k, ks[0]? = some k := ⟨ks[0]'(by rw [wd.kl]; decide), List.getElem?_eq_getElem _⟩
  have e0 : ∀ Q : D → Prop, oIx (.lst (ks.map .str)) (.int 0) Q = Q (.str k0) := fun Q => ix_nat (k := 0) hk0
  have hkk := wd.kk k0 (List.mem_of_getElem? hk0)
  have snn : Sm n := sm_lit (by omega) (by omega)
  simp! [e0, n0, s2, snn]
  refine own_any wd.ot (by omega) (by omega) (P := fun rs2 => rs2 = [] ∨ Gd c k0 rs2) ?_ (fun tg htg => ?_) fun rs2 h2 => ?_
  · by_cases z : rw' = []
    · exact .inl z
    · exact .inr (wd.gd hk0 z)
  · by_cases z : rw' = []
    · exact .inl (by rw [z]; rfl)
    · exact .inr ((wd.gd hk0 z).ren htg)
  refine ⟨fun ρ M2 => (∃ rs, Gd c k0 rs ∧ ρ = r12 ns n c ks rw' k0 rs .un .un .un .un .un .un .un .un) ∧ M2 = M1, ?_, ?_⟩
  · have er : ∀ Q : D → Prop, oEq (.lst (rs2.map roD)) (.lst []) Q = Q (.bl rs2.isEmpty) := fun Q => eq_rows fun r hr => by
      rcases h2 with rfl | g
      · nomatch hr
      · exact (g.ru r hr).ok
    simp! [er]
    by_cases z : rs2.isEmpty = true
    · rw [if_pos z, und_roD]
      exact ⟨[undRow k0], Gd.one hkk, rfl⟩
    · rw [if_neg z]
      rcases h2 with rfl | g
      · exact absurd rfl z
      · exact ⟨rs2, g, rfl⟩
  rintro ρ M2 ⟨⟨rs, gd, rfl⟩, rfl⟩
  have rl := gd.rl
  simp! [r12]
  refine lc_of (g := roD) (f := ruD) (by omega) (fun r hr K N hK => ?_) ?_
  · simp! [roD]
    intro x hx
    exact mk_rule (r := r) hx rfl rfl (.inl rfl) rfl rfl (undOf_L r.under) (gd.ru r hr).ok (gd.ru r hr).gd hK
  have l6a : (Str.ofString "scale ").length = 6 := by decide +kernel
  have l6b : (Str.ofString "start ").length = 6 := by decide +kernel
  have nw : nameB (wordS c) = true := by cases c <;> decide +kernel
  have ww : wordB (wordS c) = true := by cases c <;> decide +kernel
  have nk0 : nameB k0 = true := kind_name hkk.1
  have l12 : ∀ {w : Str}, nameB w = true → w.length ≤ 12 := fun {w} hw => by
    rw [len_cs]
    unfold nameB at hw
    rw [Bool.and_eq_true, decide_eq_true_eq] at hw
    exact hw.1.2
  have lw := l12 nw
  have lk := l12 nk0
  simp! [l6a, l6b, scale_line, start_line]
  refine ⟨by omega, by omega, by omega, by omega, fun i ρ M3 => (∃ (ps : List (Ru × Str)) (L : List Str) (e9 e10 : Ent), ps.map (·.1) = rs.take i ∧ PtOk ps ∧ More (wordS c) k0 ps L ∧ ρ = r12 ns n c ks rw' k0 rs (.dat (.lst (rs.map ruD))) (.own ((headL (wordS c) k0 ++ (rs.take i).map lineS).map .str)) (.own (L.map .str)) e9 e10 .un .un .un) ∧ M3 = M2, ⟨⟨[], _, _, _, rfl, ⟨by simp, fun p hp => (nomatch hp)⟩, More.init nw nk0, rfl⟩, rfl⟩, ?_, ?_⟩
  · rintro i d hd ρ M3 ⟨⟨ps, L, e9, e10, hps, pok, mo, rfl⟩, rfl⟩
    obtain ⟨y, hy, rfl⟩ := enumD_get hd
    rw [List.getElem?_map] at hy
    obtain ⟨r, hr, rfl⟩ := Option.map_eq_some_iff.mp hy
    have hi := (List.getElem?_eq_some_iff.mp hr).1
    have rt := gd.ru r (List.mem_of_getElem? hr)
    have si : Sm (i : Int) := sm_lit (by omega) (by omega)
    have s72 : Sm 72 := sm_lit (by decide) (by decide)
    have s8 : Sm 8 := sm_lit (by decide) (by decide)
    have s9 : Sm 9 := sm_lit (by decide) (by decide)
    have s4 : Sm 4 := sm_lit (by decide) (by decide)
    have i2 : (i : Int) * i ≤ 11 * 11 := Int.mul_le_mul (by omega) (by omega) (by omega) (by decide)
    have i0 : 0 ≤ (i : Int) * i := Int.mul_nonneg (by omega) (by omega)
    simp! [r12]
    refine ⟨r, rfl, rt, by decide, by decide, ?_⟩
    simp! [n0, si, s8, s9, snn]
    obtain ⟨bl, ebl, bl3, blm⟩ := cut_blank (m := (n / 72 + (i : Int)) % 4) (by omega)
    rw [ebl]
    have hpl : ps.length = i := by
      have := congrArg List.length hps
      rw [List.length_map, List.length_take] at this
      omega
    refine ⟨by simp [headL]; omega, r, rfl, rt, by omega, by omega, ?_⟩
    have tk := topS_ok rt.ft (b := 1 + (n / 8 + (i : Int) * i) % 9) (by omega) (by omega)
    generalize 1 + (n / 8 + (i : Int) * i) % 9 = b at tk ⊢
    have pok' : PtOk (ps ++ [(r, topS r.weight b)]) := ⟨by rw [List.length_append, List.length_singleton]; omega, fun p hp => by
      rcases List.mem_append.mp hp with hp | hp
      · exact pok.2 p hp
      · rw [List.mem_singleton.mp hp]
        exact ⟨rt, tk⟩⟩
    have hb := (wssL_line nw nk0 pok' (lineW (topS r.weight b) r) (by unfold wssL; simp)).2.1
    have mo' := mo.step (p := (r, topS r.weight b)) hb bl3 blm
    have ml := mo.2.1
    refine ⟨by rw [List.length_map]; omega, s72, by simp; omega, ps ++ [(r, topS r.weight b)], _, .dat (.int (i : Int)), .dat (roD r), ?_, pok', mo', ?_⟩
    · rw [List.map_append, hps, List.take_add_one, hr]; rfl
    · rw [List.take_add_one, hr]
      simp [topS_one, lineS]
  · rintro ρ M3 ⟨⟨ps, L, e9, e10, hps, pok, mo, rfl⟩, rfl⟩
    have el : (enumD (rs.map roD)).length = rs.length := by rw [enumD, List.length_map, List.length_zipIdx, List.length_map]
    rw [el, List.take_length] at hps ⊢
    simp! [r12]
    intro x hx
    obtain ⟨ok, hg⟩ := gd.gram
    refine ⟨upd_at, rs, rfl, ok, fun o ho => ?_⟩
    rw [hg o ho]
    refine ⟨rfl, _, upd_at, ?_⟩
    rw [upd_updM, del_up hx]
    have okw := name_okW nw
    have okk := name_okW nk0
    have osw : okS (wordS c) := okS_sc (by cases c <;> simp [wordS])
    have rok : ∀ r ∈ rs, RuOk r := fun r hr => (gd.ru r hr).ok
    have pl := plain_more nw nk0 gd.rl gd.ru
    have plo := plain_ok gd.rl gd.ru
    have gl := pl.fin nw nk0 plo
    have ml := mo.fin nw nk0 pok
    refine ⟨wordS c, k0, rs, rfl, by omega, okw, okk, gd.ru, ?_⟩
    simp! [tyS, Option.isSome]
    show joinD (Str.ofString "\n") ((gramL (wordS c) k0 rs).map .str) _
    refine joinN_ok (by omega) (fun x hx => (gl.1 x hx).2) ?_
    simp! [dSeq]
    refine ⟨gramL (wordS c) k0 rs, wordS c, k0, plain rs, rfl, pl.2.2, by omega, joinN_len gl.2 (fun x hx => (gl.1 x hx).2), fun l hl => (gl.1 l hl).1, pl.1, ww, hkk.1, plo.ps, by rw [plain_fst]; exact ok, by rw [plain_fst]; exact hg, ?_⟩
    rw [plain_fst]
    simp! [dSeq]
    refine joinN_ok (by omega) (fun x hx => (ml.1 x hx).2) ?_
    refine ⟨L, wordS c, k0, ps, rfl, mo.2.2, by omega, joinN_len ml.2 (fun x hx => (ml.1 x hx).2), fun l hl => (ml.1 l hl).1, mo.1, ww, hkk.1, pok.ps, by rw [hps]; exact ok, by rw [hps]; exact hg, ?_⟩
    rw [hps]
    simp! [dSeq]
    refine ⟨rs, rfl, rfl, by omega, osw, hkk.2, rok, ?_⟩
    simp! [dSeq]
    refine ⟨wordS c, k0, rs, rfl, by omega, okw, okk, gd.ru, ?_⟩
    simp! [dSeq]
    refine ⟨rs, rfl, rfl, by omega, osw, hkk.2, rok, ?_⟩
    simp! [dSeq]
    refine ⟨wordS c, k0, rs, rfl, by omega, okw, okk, gd.ru, ?_⟩
    simp! [dSeq]
    exact h
/-! the same readings under other names -/
theorem r_is_name_k12 (ds M Q E) (h : pur sp_is_name ds M Q E) : t_is_name_k12 (endsOf Q E) (startE [false] 2 ds) M := r_is_name ds M Q E h
theorem r_are_figures_k12 (ds M Q E) (h : pur sp_are_figures ds M Q E) : t_are_figures_k12 (endsOf Q E) (startE [false] 2 ds) M := r_are_figures ds M Q E h

end Z

namespace Z
namespace K12
open PySem PySem.Spec PyProof.Rows L2
theorem sc_l_mix : FnScope ["_law_cell", "_law_k", "_law_factor", "_law_number"] ["_law_cell", "_law_k"] (defScope s_l_mix) := ⟨rfl, rfl, rfl, by decide +kernel, rfl, by decide +kernel, by decide +kernel⟩
theorem ok_l_mix {B : Bx} {base : Heap} {j : Nat} {f : Addr} {fd : FuncData} {sp : SpM} (F : FunD B.K "_law_mix" "_law_mix" (defArgs s_l_mix) (defBody s_l_mix) (defScope s_l_mix) [] [] f fd)
    (spec : ∀ ds M Q E, sp ds M Q E → t_l_mix (endsOf Q E) (startE [false, false] 4 ds) M) : FnB B base (j + 1) f fd ["_law_cell", "_law_k"] [false, false] sp :=
  fnok_of F sc_l_mix (fun cdv A outer s H E hr tk hp =>
 (dss_cons (ds_set (i := 2) sc_l_mix.nd (de_ix hr (DE.r (DN.fz (dn_lst (dm_e de_int (dm_e de_int (dm_e de_int (dm_e de_int (dm_e de_int (dm_e de_int (dm_e de_int dm_nil)))))))))) (DE.r (de_mod (dr_var 1) (DE.r de_int)))))
 (dss_cons (ds_set (i := 3) sc_l_mix.nd (de_mod (DE.r (de_mulA (DE.r (de_add (DE.r (de_add (DE.r (de_mod (dr_var 0) (DE.r de_int))) (DE.r (de_mulA (DE.r (de_mulA (DE.r de_int) (dr_var 1))) (dr_var 1))))) (DE.r de_int))) (dr_var 2))) (DE.r de_int)))
 (dss_one (ds_ret (de_mod (DE.r (de_mulA (dr_var 3) (dr_var 3))) (DE.r de_int))))))) spec

theorem sc_l_at : FnScope ["_law_script", "_law_k"] ["_law_script", "_law_k"] (defScope s_l_at) := ⟨rfl, rfl, rfl, by decide +kernel, rfl, by decide +kernel, by decide +kernel⟩
theorem ok_l_at {B : Bx} {base : Heap} {j : Nat} {f : Addr} {fd : FuncData} {sp : SpM} (n_len : B.mg "len" = none) (F : FunD B.K "_law_at" "_law_at" (defArgs s_l_at) (defBody s_l_at) (defScope s_l_at) [] [] f fd)
    (spec : ∀ ds M Q E, sp ds M Q E → t_l_at (endsOf Q E) (startE [false, false] 2 ds) M) : FnB B base (j + 1) f fd ["_law_script", "_law_k"] [false, false] sp :=
  fnok_of F sc_l_at (fun cdv A outer s H E hr tk hp =>
 (dss_cons (ds_if (dt_cmp op_lt rf_lt (dr_var 1) (DE.r (de_callB call_lenA rf_len n_len (dm_r (dr_var 0) dm_nil))) (nomark _)) (dss_one (ds_ret (de_ix hr (dr_var 0) (dr_var 1)))) dss_nil)
 (dss_one (ds_ret de_int)))) spec

theorem sc_l_names : FnScope ["_law_cell", "_law_many", "_law_firsts", "_law_rest", "_law_number", "_law_start", "_law_tail", "_law_size", "_law_at_here", "_law_j", "_law_k", "_law_sign"] ["_law_cell", "_law_many", "_law_firsts"] (defScope s_l_names) := ⟨rfl, rfl, rfl, by decide +kernel, rfl, by decide +kernel, by decide +kernel⟩
theorem ok_l_names {B : Bx} {base : Heap} {j : Nat} {f : Addr} {fd : FuncData} {sp : SpM} {p_l_mix : SpM} (n_len : B.mg "len" = none) (n_range : B.mg "range" = none) (h_l_mix : Fn B base j "_law_mix" [false, false] p_l_mix) (F : FunD B.K "_law_names" "_law_names" (defArgs s_l_names) (defBody s_l_names) (defScope s_l_names) [] [] f fd)
    (spec : ∀ ds M Q E, sp ds M Q E → t_l_names p_l_mix (endsOf Q E) (startE [false, false, false] 12 ds) M) : FnB B base (j + 1) f fd ["_law_cell", "_law_many", "_law_firsts"] [false, false, false] sp :=
  fnok_of F sc_l_names (fun cdv A outer s H E hr tk hp =>
 (dss_cons (ds_set (i := 3) sc_l_names.nd de_str)
 (dss_cons (ds_set (i := 4) sc_l_names.nd (de_call h_l_mix hr tk (Nat.le_refl _) (dm_e (de_var 0) (dm_e de_int dm_nil))))
 (dss_cons (ds_set (i := 5) sc_l_names.nd (de_mod (DE.r (de_fdiv (dr_var 4) (DE.r de_int))) (DE.r (de_callB call_lenA rf_len n_len (dm_r (dr_var 2) dm_nil)))))
 (dss_cons (ds_set (i := 6) sc_l_names.nd (de_sm (fun ho ha => pe_bm PySem.F.plainAttrs_str PySem.F.slot_str_join PySem.F.type_str_join mt_join ho ha) rf_join (DE.r de_str) (dm_r (DE.r (DN.fz (dn_lc (own := [("_law_j", 9)]) sc_l_names.nd (di_range1 n_range (dm_r (DE.r de_int) dm_nil)) (blkOk_by (own := [("_law_j", 9)]) (N := ["_law_cell", "_law_many", "_law_firsts", "_law_rest", "_law_number", "_law_start", "_law_tail", "_law_size", "_law_at_here", "_law_j", "_law_k", "_law_sign"]) (sc := defScope s_l_names) (by decide +kernel)) (fun _ => (dgk_name (i := 9) sc_l_names.nd)) (fun _ => dts_nil) (fun _ => (de_ix hr (dr_var 3) (DE.r (de_mod (DE.r (de_add (DE.r (de_fdiv (dr_var 4) (DE.r (de_add (dr_var 9) (DE.r de_int))))) (DE.r (de_mulA (dr_var 9) (dr_var 9))))) (DE.r de_int)))))))) dm_nil)))
 (dss_cons (ds_if (dt_cmp (op_eqA hr) rf_eq (DE.r (de_mod (dr_var 4) (DE.r de_int))) (DE.r de_int) (nomark _)) (dss_one (ds_ret (DN.fz (dn_lc (own := [("_law_k", 10)]) sc_l_names.nd (di_range1 n_range (dm_r (dr_var 1) dm_nil)) (blkOk_by (own := [("_law_k", 10)]) (N := ["_law_cell", "_law_many", "_law_firsts", "_law_rest", "_law_number", "_law_start", "_law_tail", "_law_size", "_law_at_here", "_law_j", "_law_k", "_law_sign"]) (sc := defScope s_l_names) (by decide +kernel)) (fun _ => (dgk_name (i := 10) sc_l_names.nd)) (fun _ => dts_nil) (fun _ => (de_add (DE.r (de_ix hr (dr_var 2) (dr_var 5))) (DE.r (de_sl (dr_var 6) do_none (do_some (dr_var 10)))))))))) dss_nil)
 (dss_cons (ds_if (dt_cmp (op_eqA hr) rf_eq (DE.r (de_mod (dr_var 4) (DE.r de_int))) (DE.r de_int) (nomark _)) (dss_cons (ds_set (i := 7) sc_l_names.nd (de_mod (DE.r (de_fdiv (dr_var 4) (DE.r de_int))) (DE.r de_int)))
 (dss_one (ds_ret (DN.fz (dn_lc (own := [("_law_k", 10)]) sc_l_names.nd (di_range1 n_range (dm_r (dr_var 1) dm_nil)) (blkOk_by (own := [("_law_k", 10)]) (N := ["_law_cell", "_law_many", "_law_firsts", "_law_rest", "_law_number", "_law_start", "_law_tail", "_law_size", "_law_at_here", "_law_j", "_law_k", "_law_sign"]) (sc := defScope s_l_names) (by decide +kernel)) (fun _ => (dgk_name (i := 10) sc_l_names.nd)) (fun _ => dts_nil) (fun _ => (de_add (DE.r (de_ix hr (dr_var 2) (DE.r (de_mod (DE.r (de_add (dr_var 5) (dr_var 10))) (DE.r (de_callB call_lenA rf_len n_len (dm_r (dr_var 2) dm_nil))))))) (DE.r (de_sl (dr_var 6) do_none (do_some (dr_var 7))))))))))) dss_nil)
 (dss_cons (ds_set (i := 7) sc_l_names.nd (de_mod (DE.r (de_fdiv (dr_var 4) (DE.r de_int))) (DE.r de_int)))
 (dss_cons (ds_set (i := 8) sc_l_names.nd (de_mod (DE.r (de_fdiv (dr_var 4) (DE.r de_int))) (DE.r (de_add (dr_var 7) (DE.r de_int)))))
 (dss_cons (ds_set (i := 3) sc_l_names.nd (DN.fz (dn_lc (own := [("_law_k", 10)]) sc_l_names.nd (di_range1 n_range (dm_r (dr_var 1) dm_nil)) (blkOk_by (own := [("_law_k", 10)]) (N := ["_law_cell", "_law_many", "_law_firsts", "_law_rest", "_law_number", "_law_start", "_law_tail", "_law_size", "_law_at_here", "_law_j", "_law_k", "_law_sign"]) (sc := defScope s_l_names) (by decide +kernel)) (fun _ => (dgk_name (i := 10) sc_l_names.nd)) (fun _ => dts_nil) (fun _ => (de_ix hr (dr_var 3) (DE.r (de_mod (DE.r (de_add (DE.r (de_fdiv (dr_var 4) (DE.r de_int))) (dr_var 10))) (DE.r de_int))))))))
 (dss_one (ds_ret (DN.fz (dn_lc (own := [("_law_sign", 11)]) sc_l_names.nd (di_any (de_var 3)) (blkOk_by (own := [("_law_sign", 11)]) (N := ["_law_cell", "_law_many", "_law_firsts", "_law_rest", "_law_number", "_law_start", "_law_tail", "_law_size", "_law_at_here", "_law_j", "_law_k", "_law_sign"]) (sc := defScope s_l_names) (by decide +kernel)) (fun _ => (dgk_name (i := 11) sc_l_names.nd)) (fun _ => dts_nil) (fun _ => (de_add (DE.r (de_add (DE.r (de_add (DE.r (de_ix hr (dr_var 2) (dr_var 5))) (DE.r (de_sl (dr_var 6) do_none (do_some (dr_var 8)))))) (dr_var 11))) (DE.r (de_sl (dr_var 6) (do_some (dr_var 8)) (do_some (dr_var 7)))))))))))))))))))) spec

theorem sc_l_lowest : FnScope ["_law_top", "_law_bottom", "_law_one", "_law_other", "_law_kept_here"] ["_law_top", "_law_bottom"] (defScope s_l_lowest) := ⟨rfl, rfl, rfl, by decide +kernel, rfl, by decide +kernel, by decide +kernel⟩
theorem ok_l_lowest {B : Bx} {base : Heap} {j : Nat} {f : Addr} {fd : FuncData} {sp : SpM} (n_abs : B.mg "abs" = none) (F : FunD B.K "_law_lowest" "_law_lowest" (defArgs s_l_lowest) (defBody s_l_lowest) (defScope s_l_lowest) [] [] f fd)
    (spec : ∀ ds M Q E, sp ds M Q E → t_l_lowest (endsOf Q E) (startE [false, false] 5 ds) M) : FnB B base (j + 1) f fd ["_law_top", "_law_bottom"] [false, false] sp :=
  fnok_of F sc_l_lowest (fun cdv A outer s H E hr tk hp =>
 (dss_cons (ds_set (i := 2) sc_l_lowest.nd (de_callB call_abs rf_abs n_abs (dm_r (dr_var 0) dm_nil)))
 (dss_cons (ds_set (i := 3) sc_l_lowest.nd (de_var 1))
 (dss_cons (ds_while hp (dt_cmp op_gt rf_gt (dr_var 3) (DE.r de_int) (nomark _)) (dss_cons (ds_set (i := 4) sc_l_lowest.nd (de_mod (dr_var 2) (dr_var 3)))
 (dss_cons (ds_set (i := 2) sc_l_lowest.nd (de_var 3))
 (dss_one (ds_set (i := 3) sc_l_lowest.nd (de_var 4))))))
 (dss_one (ds_ret (de_tup (dm_e (de_fdiv (dr_var 0) (dr_var 2)) (dm_e (de_fdiv (dr_var 1) (dr_var 2)) dm_nil))))))))) spec

theorem sc_l_weight_k09 : FnScope ["_law_cell", "_law_k", "_law_scale", "_law_m", "_law_top", "_law_bottom"] ["_law_cell", "_law_k", "_law_scale"] (defScope s_l_weight_k09) := ⟨rfl, rfl, rfl, by decide +kernel, rfl, by decide +kernel, by decide +kernel⟩
theorem ok_l_weight_k09 {B : Bx} {base : Heap} {j : Nat} {f : Addr} {fd : FuncData} {sp : SpM} {p_l_mix : SpM} {p_l_lowest : SpM} (n_int : B.mg "int" = none) (h_l_mix : Fn B base j "_law_mix" [false, false] p_l_mix) (h_l_lowest : Fn B base j "_law_lowest" [false, false] p_l_lowest) (F : FunD B.K "_law_weight" "_law_weight" (defArgs s_l_weight_k09) (defBody s_l_weight_k09) (defScope s_l_weight_k09) [] [] f fd)
    (spec : ∀ ds M Q E, sp ds M Q E → t_l_weight_k09 p_l_mix p_l_lowest (endsOf Q E) (startE [false, false, false] 6 ds) M) : FnB B base (j + 1) f fd ["_law_cell", "_law_k", "_law_scale"] [false, false, false] sp :=
  fnok_of F sc_l_weight_k09 (fun cdv A outer s H E hr tk hp =>
 (dss_cons (ds_set (i := 3) sc_l_weight_k09.nd (de_call h_l_mix hr tk (Nat.le_refl _) (dm_e (de_var 0) (dm_e (de_var 1) dm_nil))))
 (dss_cons (ds_set (i := 4) sc_l_weight_k09.nd (de_ix hr (DE.r (DN.fz (dn_lst (dm_e de_int (dm_e de_int (dm_e de_int (dm_e de_int (dm_e (de_mod (dr_var 0) (DE.r (de_pow (DE.r de_int) (DE.r de_int)))) (dm_e (de_var 3) dm_nil))))))))) (DE.r (de_mod (dr_var 3) (DE.r de_int)))))
 (dss_cons (ds_set (i := 5) sc_l_weight_k09.nd (de_ix hr (DE.r (DN.fz (dn_lst (dm_e de_int (dm_e de_int (dm_e de_int (dm_e de_int (dm_e (de_add (DE.r de_int) (DE.r (de_mod (DE.r (de_fdiv (dr_var 3) (DE.r de_int))) (DE.r (de_pow (DE.r de_int) (DE.r de_int)))))) (dm_e de_int dm_nil))))))))) (DE.r (de_mod (DE.r (de_fdiv (dr_var 3) (DE.r de_int))) (DE.r de_int)))))
 (dss_cons (ds_if (dt_cmp (op_eqA hr) rf_eq (dr_var 2) (DE.r de_str) (nomark _)) (dss_one (ds_set (i := 4) sc_l_weight_k09.nd (de_add (dr_var 4) (DE.r (de_callTy call_intA rf_int1 n_int (dm_r (DE.r (de_cmp (op_eqA hr) rf_eq (dr_var 4) (DE.r de_int) (nomark _))) dm_nil)))))) (dss_one (ds_if (dt_cmp (op_eqA hr) rf_eq (DE.r (de_mod (DE.r (de_fdiv (dr_var 3) (DE.r de_int))) (DE.r de_int))) (DE.r de_int) (nomark _)) (dss_one (ds_set (i := 4) sc_l_weight_k09.nd (de_neg (dr_var 4)))) dss_nil)))
 (dss_one (ds_ret (de_call h_l_lowest hr tk (Nat.le_refl _) (dm_e (de_var 4) (dm_e (de_var 5) dm_nil)))))))))) spec

theorem sc_l_wild_parts : FnScope ["_law_cells", "_law_mode", "_law_heads", "_law_kinds", "_law_words", "_law_head", "_law_m", "_law_some", "_law_parts", "_law_k", "_law_n", "_law_single"] ["_law_cells", "_law_mode", "_law_heads", "_law_kinds", "_law_words", "_law_head"] (defScope s_l_wild_parts) := ⟨rfl, rfl, rfl, by decide +kernel, rfl, by decide +kernel, by decide +kernel⟩
theorem ok_l_wild_parts {B : Bx} {base : Heap} {j : Nat} {f : Addr} {fd : FuncData} {sp : SpM} {p_l_mix : SpM} (n_len : B.mg "len" = none) (n_list : B.mg "list" = none) (n_range : B.mg "range" = none) (h_l_mix : Fn B base j "_law_mix" [false, false] p_l_mix) (F : FunD B.K "_law_wild_parts" "_law_wild_parts" (defArgs s_l_wild_parts) (defBody s_l_wild_parts) (defScope s_l_wild_parts) [] [] f fd)
    (spec : ∀ ds M Q E, sp ds M Q E → t_l_wild_parts p_l_mix (endsOf Q E) (startE [false, false, false, false, false, false] 12 ds) M) : FnB B base (j + 1) f fd ["_law_cells", "_law_mode", "_law_heads", "_law_kinds", "_law_words", "_law_head"] [false, false, false, false, false, false] sp :=
  fnok_of F sc_l_wild_parts (fun cdv A outer s H E hr tk hp =>
 (dss_cons (ds_set (i := 6) sc_l_wild_parts.nd (de_call h_l_mix hr tk (Nat.le_refl _) (dm_e (de_ix hr (dr_var 0) (DE.r (de_mod (DE.r de_int) (DE.r (de_callB call_lenA rf_len n_len (dm_r (dr_var 0) dm_nil)))))) (dm_e de_int dm_nil))))
 (dss_cons (ds_set (i := 7) sc_l_wild_parts.nd (DN.fz (dn_list n_list (dm_r (dr_var 2) dm_nil))))
 (dss_cut (ds_if (DW.t (dw_or (dt_cmp (op_eqA hr) rf_eq (dr_var 1) (DE.r de_int) (nomark _)) (dw_or1 (DW.t (dw_and (dt_cmp (op_eqA hr) rf_eq (dr_var 1) (DE.r de_int) (nomark _)) (dw_and1 (dt_cmp (op_eqA hr) rf_eq (DE.r (de_mod (dr_var 6) (DE.r de_int))) (DE.r de_int) (nomark _)))))))) (dss_one (ds_set (i := 7) sc_l_wild_parts.nd (de_var 3))) dss_nil)
 (dss_cons (ds_own (i := 8) sc_l_wild_parts.nd (dn_lst dm_nil))
 (dss_cons (ds_for hp rfl (di_range1 n_range (dm_r (DE.r (de_ix hr (DE.r (de_tup (dm_e de_int (dm_e de_int (dm_e de_int (dm_e de_int (dm_e de_int (dm_e de_int dm_nil)))))))) (DE.r (de_mod (DE.r (de_fdiv (dr_var 6) (DE.r de_int))) (DE.r de_int))))) dm_nil)) (dg_name (i := 9) sc_l_wild_parts.nd) (dss_cons (ds_set (i := 10) sc_l_wild_parts.nd (de_call h_l_mix hr tk (Nat.le_refl _) (dm_e (de_ix hr (dr_var 0) (DE.r (de_mod (DE.r (de_add (DE.r de_int) (dr_var 9))) (DE.r (de_callB call_lenA rf_len n_len (dm_r (dr_var 0) dm_nil)))))) (dm_e (de_add (DE.r de_int) (dr_var 9)) dm_nil))))
 (dss_one (ds_if (dt_cmp op_lt rf_lt (DE.r (de_mod (dr_var 10) (DE.r de_int))) (DE.r de_int) (nomark _)) (dss_one (ds_lmut (fun ha => pe_bm PySem.F.plainAttrs_list PySem.F.slot_list_append PySem.F.type_list_append mt_append (pv 8) ha) rf_append (dm_e (de_ix hr (dr_var 7) (DE.r (de_mod (DE.r (de_fdiv (dr_var 10) (DE.r de_int))) (DE.r (de_callB call_lenA rf_len n_len (dm_r (dr_var 7) dm_nil)))))) dm_nil))) (dss_one (ds_lmut (fun ha => pe_bm PySem.F.plainAttrs_list PySem.F.slot_list_append PySem.F.type_list_append mt_append (pv 8) ha) rf_append (dm_e (de_ix hr (dr_var 4) (DE.r (de_mod (DE.r (de_fdiv (dr_var 10) (DE.r de_int))) (DE.r de_int)))) dm_nil)))))))
 (dss_cons (ds_set (i := 11) sc_l_wild_parts.nd (de_and (de_cmp (op_eqA hr) rf_eq (DE.r (de_callB call_lenA rf_len n_len (dm_r (dr_var 8) dm_nil))) (DE.r de_int) (nomark _)) (de_one (de_cmp (op_inA hr) rf_in (DE.r (de_ix hr (dr_var 8) (DE.r de_int))) (dr_var 3) (by rfl)))))
 (dss_cut (ds_if (DW.t (dw_and (dt_tru (dr_var 11)) (dw_and (dt_cmp op_lt rf_lt (dr_var 1) (DE.r de_int) (nomark _)) (dw_and1 (dt_cmp op_le rf_le (DE.r (de_lidx (fun ho ha => pe_bm PySem.F.plainAttrs_list PySem.F.slot_list_index PySem.F.type_list_index mt_index ho ha) (dr_var 3) (dm_r (DE.r (de_ix hr (dr_var 8) (DE.r de_int))) dm_nil))) (DE.r (de_lidx (fun ho ha => pe_bm PySem.F.plainAttrs_list PySem.F.slot_list_index PySem.F.type_list_index mt_index ho ha) (dr_var 3) (dm_r (dr_var 5) dm_nil))) (nomark _)))))) (dss_one (ds_own (i := 8) sc_l_wild_parts.nd (dn_lst (dm_e (de_ix hr (dr_var 4) (DE.r (de_mod (dr_var 6) (DE.r de_int)))) dm_nil)))) dss_nil)
 (dss_one (ds_frz 8 (ds_ret (de_var 8)))))))))))) spec

theorem sc_l_wild_rows_k11 : FnScope ["_law_script", "_law_mode", "_law_scale", "_law_kinds", "_law_words", "_law_titles", "_law_parts", "_law_heads", "_law_rows", "_law_k", "_law_n", "_law_title", "_law_weight_here", "_law_some", "_law_under", "_law_tag", "_law_row", "_law_part", "_law_j"] ["_law_script", "_law_mode", "_law_scale"] (defScope s_l_wild_rows_k11) := ⟨rfl, rfl, rfl, by decide +kernel, rfl, by decide +kernel, by decide +kernel⟩
theorem ok_l_wild_rows_k11 {B : Bx} {base : Heap} {j : Nat} {f : Addr} {fd : FuncData} {sp : SpM} {p_l_names : SpM} {p_l_at : SpM} {p_l_mix : SpM} {p_l_weight_k09 : SpM} {p_l_wild_parts : SpM} (n_range : B.mg "range" = none) (n_len : B.mg "len" = none) (n_int : B.mg "int" = none) (h_l_names : Fn B base j "_law_names" [false, false, false] p_l_names) (h_l_at : Fn B base j "_law_at" [false, false] p_l_at) (h_l_mix : Fn B base j "_law_mix" [false, false] p_l_mix) (h_l_weight_k09 : Fn B base j "_law_weight" [false, false, false] p_l_weight_k09) (h_l_wild_parts : Fn B base j "_law_wild_parts" [false, false, false, false, false, false] p_l_wild_parts) (F : FunD B.K "_law_wild_rows" "_law_wild_rows" (defArgs s_l_wild_rows_k11) (defBody s_l_wild_rows_k11) (defScope s_l_wild_rows_k11) [] [] f fd)
    (spec : ∀ ds M Q E, sp ds M Q E → t_l_wild_rows_k11 p_l_names p_l_at p_l_mix p_l_weight_k09 p_l_wild_parts (endsOf Q E) (startE [false, false, false] 19 ds) M) : FnB B base (j + 1) f fd ["_law_script", "_law_mode", "_law_scale"] [false, false, false] sp :=
  fnok_of F sc_l_wild_rows_k11 (fun cdv A outer s H E hr tk hp =>
 (dss_cons (ds_set (i := 3) sc_l_wild_rows_k11.nd (de_call h_l_names hr tk (Nat.le_refl _) (dm_e (de_call h_l_at hr tk (Nat.le_refl _) (dm_e (de_var 0) (dm_e de_int dm_nil))) (dm_e de_int (dm_e de_str dm_nil)))))
 (dss_cons (ds_set (i := 4) sc_l_wild_rows_k11.nd (de_call h_l_names hr tk (Nat.le_refl _) (dm_e (de_call h_l_at hr tk (Nat.le_refl _) (dm_e (de_var 0) (dm_e de_int dm_nil))) (dm_e de_int (dm_e de_str dm_nil)))))
 (dss_cons (ds_set (i := 5) sc_l_wild_rows_k11.nd (de_call h_l_names hr tk (Nat.le_refl _) (dm_e (de_call h_l_at hr tk (Nat.le_refl _) (dm_e (de_var 0) (dm_e de_int dm_nil))) (dm_e de_int (dm_e de_str dm_nil)))))
 (dss_cons (ds_set (i := 6) sc_l_wild_rows_k11.nd (DN.fz (dn_lc (own := [("_law_k", 9)]) sc_l_wild_rows_k11.nd (di_range1 n_range (dm_r (DE.r de_int) dm_nil)) (blkOk_by (own := [("_law_k", 9)]) (N := ["_law_script", "_law_mode", "_law_scale", "_law_kinds", "_law_words", "_law_titles", "_law_parts", "_law_heads", "_law_rows", "_law_k", "_law_n", "_law_title", "_law_weight_here", "_law_some", "_law_under", "_law_tag", "_law_row", "_law_part", "_law_j"]) (sc := defScope s_l_wild_rows_k11) (by decide +kernel)) (fun _ => (dgk_name (i := 9) sc_l_wild_rows_k11.nd)) (fun _ => dts_nil) (fun _ => (de_sl (dr_var 0) (do_some (DE.r (de_add (DE.r de_int) (DE.r (de_mulA (DE.r de_int) (dr_var 9)))))) (do_some (DE.r (de_add (DE.r de_int) (DE.r (de_mulA (DE.r de_int) (dr_var 9)))))))))))
 (dss_cons (ds_set (i := 6) sc_l_wild_rows_k11.nd (DN.fz (dn_lc (own := [("_law_part", 17)]) sc_l_wild_rows_k11.nd (di_any (de_var 6)) (blkOk_by (own := [("_law_part", 17)]) (N := ["_law_script", "_law_mode", "_law_scale", "_law_kinds", "_law_words", "_law_titles", "_law_parts", "_law_heads", "_law_rows", "_law_k", "_law_n", "_law_title", "_law_weight_here", "_law_some", "_law_under", "_law_tag", "_law_row", "_law_part", "_law_j"]) (sc := defScope s_l_wild_rows_k11) (by decide +kernel)) (fun _ => (dgk_name (i := 17) sc_l_wild_rows_k11.nd)) (fun _ => (dts_one (dt_cmp (op_neA hr) rf_ne (dr_var 17) (DE.r (DN.fz (dn_lst dm_nil))) (nomark _)))) (fun _ => (de_var 17)))))
 (dss_cons (ds_setLc (j := 7) (own := [("_law_k", 9)]) sc_l_wild_rows_k11.nd (di_range1 n_range (dm_r (DE.r (de_callB call_lenA rf_len n_len (dm_r (dr_var 6) dm_nil))) dm_nil)) (blkOk_by (own := [("_law_k", 9)]) (N := ["_law_script", "_law_mode", "_law_scale", "_law_kinds", "_law_words", "_law_titles", "_law_parts", "_law_heads", "_law_rows", "_law_k", "_law_n", "_law_title", "_law_weight_here", "_law_some", "_law_under", "_law_tag", "_law_row", "_law_part", "_law_j"]) (sc := defScope s_l_wild_rows_k11) (by decide +kernel)) (fun _ => (dgk_name (i := 9) sc_l_wild_rows_k11.nd)) (fun _ => dts_nil) (fun _ => (de_ix hr (dr_var 3) (DE.r (de_ix hr (DE.r (de_tup (dm_e de_int (dm_e (de_mod (DE.r (de_call h_l_mix hr takes0 (Nat.le_refl _) (dm_e (de_ix hr (DE.r (de_ix hr (dr_var 6) (dr_var 9))) (DE.r de_int)) (dm_e de_int dm_nil)))) (DE.r de_int)) dm_nil)))) (DE.r (de_callTy call_intA rf_int1 n_int (dm_r (DE.r (de_cmp op_gt rf_gt (dr_var 9) (DE.r de_int) (nomark _))) dm_nil))))))))
 (dss_cons (ds_own (i := 8) sc_l_wild_rows_k11.nd (dn_lst dm_nil))
 (dss_cons (ds_for hp rfl (di_range1 n_range (dm_r (DE.r (de_callB call_lenA rf_len n_len (dm_r (dr_var 6) dm_nil))) dm_nil)) (dg_name (i := 9) sc_l_wild_rows_k11.nd) (dss_cons (ds_set (i := 10) sc_l_wild_rows_k11.nd (de_call h_l_mix hr tk (Nat.le_refl _) (dm_e (de_ix hr (DE.r (de_ix hr (dr_var 6) (dr_var 9))) (DE.r (de_neg (DE.r de_int)))) (dm_e de_int dm_nil))))
 (dss_cons (ds_set (i := 11) sc_l_wild_rows_k11.nd (de_ix hr (dr_var 5) (dr_var 9)))
 (dss_cut (ds_if (DW.t (dw_or (dt_cmp (op_eqA hr) rf_eq (dr_var 1) (DE.r de_int) (nomark _)) (dw_or1 (DW.t (dw_and (dt_cmp (op_eqA hr) rf_eq (dr_var 1) (DE.r de_int) (nomark _)) (dw_and1 (dt_cmp (op_eqA hr) rf_eq (DE.r (de_mod (dr_var 10) (DE.r de_int))) (DE.r de_int) (nomark _)))))))) (dss_one (ds_set (i := 11) sc_l_wild_rows_k11.nd (de_ix hr (dr_var 5) (DE.r (de_mod (DE.r (de_fdiv (dr_var 10) (DE.r de_int))) (DE.r de_int)))))) dss_nil)
 (dss_cons (ds_set (i := 12) sc_l_wild_rows_k11.nd (de_call h_l_weight_k09 hr tk (Nat.le_refl _) (dm_e (de_ix hr (DE.r (de_ix hr (dr_var 6) (dr_var 9))) (DE.r (de_mod (DE.r de_int) (DE.r (de_callB call_lenA rf_len n_len (dm_r (DE.r (de_ix hr (dr_var 6) (dr_var 9))) dm_nil)))))) (dm_e de_int (dm_e (de_var 2) dm_nil)))))
 (dss_cut (ds_if (DW.t (dw_and (DW.t (dw_or (dt_cmp (op_eqA hr) rf_eq (dr_var 1) (DE.r de_int) (nomark _)) (dw_or1 (dt_cmp (op_eqA hr) rf_eq (dr_var 1) (DE.r de_int) (nomark _))))) (dw_and1 (dt_cmp (op_eqA hr) rf_eq (DE.r (de_mod (dr_var 10) (DE.r de_int))) (DE.r de_int) (nomark _))))) (dss_one (ds_set (i := 12) sc_l_wild_rows_k11.nd (de_ix hr (DE.r (de_tup (dm_e (de_tup (dm_e de_int (dm_e de_int dm_nil))) (dm_e (de_tup (dm_e (de_neg (DE.r de_int)) (dm_e de_int dm_nil))) (dm_e (de_tup (dm_e (de_sub (DE.r (de_neg (DE.r (de_mod (dr_var 10) (DE.r (de_pow (DE.r de_int) (DE.r de_int))))))) (DE.r de_int)) (dm_e de_int dm_nil))) dm_nil))))) (DE.r (de_mod (DE.r (de_fdiv (dr_var 10) (DE.r de_int))) (DE.r de_int)))))) dss_nil)
 (dss_cons (ds_set (i := 13) sc_l_wild_rows_k11.nd (de_sl (dr_var 5) do_none (do_some (DE.r (de_callB call_lenA rf_len n_len (dm_r (dr_var 6) dm_nil))))))
 (dss_cut (ds_if (DW.t (dw_or (dt_cmp (op_eqA hr) rf_eq (dr_var 1) (DE.r de_int) (nomark _)) (dw_or1 (DW.t (dw_and (dt_cmp (op_eqA hr) rf_eq (dr_var 1) (DE.r de_int) (nomark _)) (dw_and1 (dt_cmp (op_eqA hr) rf_eq (DE.r (de_mod (dr_var 10) (DE.r de_int))) (DE.r de_int) (nomark _)))))))) (dss_one (ds_set (i := 13) sc_l_wild_rows_k11.nd (de_var 5))) dss_nil)
 (dss_cons (ds_set (i := 14) sc_l_wild_rows_k11.nd de_non)
 (dss_cut (ds_if (dt_cmp (op_eqA hr) rf_eq (DE.r (de_mod (DE.r (de_fdiv (dr_var 10) (DE.r de_int))) (DE.r de_int))) (DE.r de_int) (nomark _)) (dss_one (ds_setLc (j := 14) (own := [("_law_j", 18)]) sc_l_wild_rows_k11.nd (di_range1 n_range (dm_r (DE.r (de_add (DE.r de_int) (DE.r (de_mod (DE.r (de_fdiv (dr_var 10) (DE.r de_int))) (DE.r de_int))))) dm_nil)) (blkOk_by (own := [("_law_j", 18)]) (N := ["_law_script", "_law_mode", "_law_scale", "_law_kinds", "_law_words", "_law_titles", "_law_parts", "_law_heads", "_law_rows", "_law_k", "_law_n", "_law_title", "_law_weight_here", "_law_some", "_law_under", "_law_tag", "_law_row", "_law_part", "_law_j"]) (sc := defScope s_l_wild_rows_k11) (by decide +kernel)) (fun _ => (dgk_name (i := 18) sc_l_wild_rows_k11.nd)) (fun _ => dts_nil) (fun _ => (de_ix hr (dr_var 13) (DE.r (de_mod (DE.r (de_fdiv (dr_var 10) (DE.r (de_add (DE.r de_int) (DE.r (de_mulA (DE.r de_int) (dr_var 18))))))) (DE.r (de_callB call_lenA rf_len n_len (dm_r (dr_var 13) dm_nil))))))))) dss_nil)
 (dss_cons (ds_set (i := 15) sc_l_wild_rows_k11.nd (de_ix hr (DE.r (de_tup (dm_e de_str (dm_e (de_ix hr (dr_var 4) (DE.r (de_mod (DE.r (de_fdiv (dr_var 10) (DE.r de_int))) (DE.r de_int)))) dm_nil)))) (DE.r (de_mod (DE.r (de_fdiv (dr_var 10) (DE.r de_int))) (DE.r de_int)))))
 (dss_cons (ds_set (i := 16) sc_l_wild_rows_k11.nd (de_call h_l_wild_parts hr tk (Nat.le_refl _) (dm_e (de_ix hr (dr_var 6) (dr_var 9)) (dm_e (de_var 1) (dm_e (de_var 7) (dm_e (de_var 3) (dm_e (de_var 4) (dm_e (de_ix hr (dr_var 7) (dr_var 9)) dm_nil))))))))
 (dss_one (ds_lmut (fun ha => pe_bm PySem.F.plainAttrs_list PySem.F.slot_list_append PySem.F.type_list_append mt_append (pv 8) ha) rf_append (dm_e (de_tup (dm_e (de_var 11) (dm_e (de_ix hr (dr_var 7) (dr_var 9)) (dm_e (de_var 16) (dm_e (de_var 12) (dm_e (de_var 15) (dm_e (de_var 14) dm_nil))))))) dm_nil)))))))))))))))
 (dss_one (ds_frz 8 (ds_ret (de_tup (dm_e (de_var 3) (dm_e (de_var 8) dm_nil))))))))))))))) spec

theorem sc_l_own_words : FnScope ["_law_rows", "_law_number", "_law_some", "_law_told", "_law_row", "_law_made", "_law_tag", "_law_under", "_law_title"] ["_law_rows", "_law_number"] (defScope s_l_own_words) := ⟨rfl, rfl, rfl, by decide +kernel, rfl, by decide +kernel, by decide +kernel⟩
theorem ok_l_own_words {B : Bx} {base : Heap} {j : Nat} {f : Addr} {fd : FuncData} {sp : SpM} (n_len : B.mg "len" = none) (F : FunD B.K "_law_own_words" "_law_own_words" (defArgs s_l_own_words) (defBody s_l_own_words) (defScope s_l_own_words) [] [] f fd)
    (spec : ∀ ds M Q E, sp ds M Q E → t_l_own_words (endsW Q E) (startE [false, false] 9 ds) M) : FnB B base (j + 1) f fd ["_law_rows", "_law_number"] [false, false] sp :=
  fnok_ofW F sc_l_own_words (fun cdv A outer s H E hr tk hp =>
 (dss_cons (ds_if (dt_cmp op_gt rf_gt (DE.r (de_mod (dr_var 1) (DE.r de_int))) (DE.r de_int) (nomark _)) (dss_one (ds_ret (de_var 0))) dss_nil)
 (dss_cons (ds_set (i := 2) sc_l_own_words.nd (DN.fz (dn_lst (dm_e de_str (dm_e de_str (dm_e de_str (dm_e de_str (dm_e de_str (dm_e de_str (dm_e de_str (dm_e de_str (dm_e de_str (dm_e de_str (dm_e de_str (dm_e de_str dm_nil)))))))))))))))
 (dss_cons (ds_set (i := 3) sc_l_own_words.nd (de_dnew false))
 (dss_cons (ds_for hp rfl (di_any (de_var 0)) (dg_name (i := 4) sc_l_own_words.nd) (dss_one (ds_dput hr (de_var 3) (de_ix hr (dr_var 4) (DE.r de_int)) (de_ix hr (dr_var 2) (DE.r (de_mod (DE.r (de_callB call_lenA rf_len n_len (dm_r (dr_var 3) dm_nil))) (DE.r de_int)))))))
 (dss_cons (ds_frzM 3 (ds_own (i := 5) sc_l_own_words.nd (dn_lst dm_nil)))
 (dss_cons (ds_for hp rfl (di_any (de_var 0)) (dg_name (i := 4) sc_l_own_words.nd) (dss_cons (ds_set (i := 6) sc_l_own_words.nd (de_ix hr (dr_var 4) (DE.r de_int)))
 (dss_cut (ds_if (dt_cmp (op_neA hr) rf_ne (dr_var 6) (DE.r de_str) (nomark _)) (dss_one (ds_set (i := 6) sc_l_own_words.nd (de_ix hr (dr_var 2) (DE.r (de_mod (DE.r (de_fdiv (dr_var 1) (DE.r de_int))) (DE.r de_int)))))) dss_nil)
 (dss_cons (ds_set (i := 7) sc_l_own_words.nd (de_ix hr (dr_var 4) (DE.r de_int)))
 (dss_cut (ds_if (dt_cmp op_notN rf_notN (dr_var 7) (DE.r de_non) (nomark _)) (dss_one (ds_setLc (j := 7) (own := [("_law_title", 8)]) sc_l_own_words.nd (di_any (de_var 7)) (blkOk_by (own := [("_law_title", 8)]) (N := ["_law_rows", "_law_number", "_law_some", "_law_told", "_law_row", "_law_made", "_law_tag", "_law_under", "_law_title"]) (sc := defScope s_l_own_words) (by decide +kernel)) (fun _ => (dgk_name (i := 8) sc_l_own_words.nd)) (fun _ => dts_nil) (fun _ => (de_ix hr (dr_var 3) (dr_var 8))))) dss_nil)
 (dss_one (ds_lmut (fun ha => pe_bm PySem.F.plainAttrs_list PySem.F.slot_list_append PySem.F.type_list_append mt_append (pv 5) ha) rf_append (dm_e (de_tup (dm_e (de_ix hr (dr_var 3) (DE.r (de_ix hr (dr_var 4) (DE.r de_int)))) (dm_e (de_ix hr (dr_var 4) (DE.r de_int)) (dm_e (de_ix hr (dr_var 4) (DE.r de_int)) (dm_e (de_ix hr (dr_var 4) (DE.r de_int)) (dm_e (de_var 6) (dm_e (de_var 7) dm_nil))))))) dm_nil))))))))
 (dss_one (ds_frz 5 (ds_ret (de_var 5))))))))))) spec

theorem sc_l_line : FnScope ["_law_row", "_law_by", "_law_top", "_law_line_here"] ["_law_row", "_law_by"] (defScope s_l_line) := ⟨rfl, rfl, rfl, by decide +kernel, rfl, by decide +kernel, by decide +kernel⟩
theorem ok_l_line {B : Bx} {base : Heap} {j : Nat} {f : Addr} {fd : FuncData} {sp : SpM} (n_str : B.mg "str" = none) (F : FunD B.K "_law_line" "_law_line" (defArgs s_l_line) (defBody s_l_line) (defScope s_l_line) [] [] f fd)
    (spec : ∀ ds M Q E, sp ds M Q E → t_l_line (endsOf Q E) (startE [false, false] 4 ds) M) : FnB B base (j + 1) f fd ["_law_row", "_law_by"] [false, false] sp :=
  fnok_of F sc_l_line (fun cdv A outer s H E hr tk hp =>
 (dss_cons (ds_set (i := 2) sc_l_line.nd (de_callTy call_str_int rf_str1 n_str (dm_r (DE.r (de_mulA (DE.r (de_ix hr (DE.r (de_ix hr (dr_var 0) (DE.r de_int))) (DE.r de_int))) (dr_var 1))) dm_nil)))
 (dss_cut (ds_if (DW.t (dw_or (dt_cmp op_gt rf_gt (dr_var 1) (DE.r de_int) (nomark _)) (dw_or1 (dt_cmp op_gt rf_gt (DE.r (de_ix hr (DE.r (de_ix hr (dr_var 0) (DE.r de_int))) (DE.r de_int))) (DE.r de_int) (nomark _))))) (dss_one (ds_set (i := 2) sc_l_line.nd (de_add (DE.r (de_add (dr_var 2) (DE.r de_str))) (DE.r (de_callTy call_str_int rf_str1 n_str (dm_r (DE.r (de_mulA (DE.r (de_ix hr (DE.r (de_ix hr (dr_var 0) (DE.r de_int))) (DE.r de_int))) (dr_var 1))) dm_nil)))))) dss_nil)
 (dss_cons (ds_set (i := 3) sc_l_line.nd (de_add (DE.r (de_add (DE.r (de_add (DE.r (de_add (DE.r (de_add (DE.r (de_add (DE.r (de_add (DE.r de_str) (DE.r (de_ix hr (dr_var 0) (DE.r de_int))))) (DE.r de_str))) (DE.r (de_ix hr (dr_var 0) (DE.r de_int))))) (DE.r de_str))) (DE.r (de_sm (fun ho ha => pe_bm PySem.F.plainAttrs_str PySem.F.slot_str_join PySem.F.type_str_join mt_join ho ha) rf_join (DE.r de_str) (dm_r (DE.r (de_ix hr (dr_var 0) (DE.r de_int))) dm_nil))))) (DE.r de_str))) (dr_var 2)))
 (dss_cut (ds_if (dt_cmp (op_neA hr) rf_ne (DE.r (de_ix hr (dr_var 0) (DE.r de_int))) (DE.r de_str) (nomark _)) (dss_one (ds_set (i := 3) sc_l_line.nd (de_add (DE.r (de_add (dr_var 3) (DE.r de_str))) (DE.r (de_ix hr (dr_var 0) (DE.r de_int)))))) dss_nil)
 (dss_cut (ds_if (dt_cmp op_notN rf_notN (DE.r (de_ix hr (dr_var 0) (DE.r de_int))) (DE.r de_non) (nomark _)) (dss_one (ds_set (i := 3) sc_l_line.nd (de_add (DE.r (de_add (dr_var 3) (DE.r de_str))) (DE.r (de_sm (fun ho ha => pe_bm PySem.F.plainAttrs_str PySem.F.slot_str_join PySem.F.type_str_join mt_join ho ha) rf_join (DE.r de_str) (dm_r (DE.r (de_ix hr (dr_var 0) (DE.r de_int))) dm_nil)))))) dss_nil)
 (dss_one (ds_ret (de_var 3))))))))) spec

theorem sc_fraction_text : FnScope ["one"] ["one"] (defScope s_fraction_text) := ⟨rfl, rfl, rfl, by decide +kernel, rfl, by decide +kernel, by decide +kernel⟩
theorem ok_fraction_text {B : Bx} {base : Heap} {j : Nat} {f : Addr} {fd : FuncData} {sp : SpM} (n_str : B.mg "str" = none) (F : FunD B.K "fraction_text" "fraction_text" (defArgs s_fraction_text) (defBody s_fraction_text) (defScope s_fraction_text) [] [] f fd)
    (spec : ∀ ds M Q E, sp ds M Q E → t_fraction_text (endsOf Q E) (startE [false] 1 ds) M) : FnB B base (j + 1) f fd ["one"] [false] sp :=
  fnok_of F sc_fraction_text (fun cdv A outer s H E hr tk hp =>
 (dss_cons (ds_if (dt_cmp (op_eqA hr) rf_eq (DE.r (de_ix hr (dr_var 0) (DE.r de_int))) (DE.r de_int) (nomark _)) (dss_one (ds_ret (de_callTy call_str_int rf_str1 n_str (dm_r (DE.r (de_ix hr (dr_var 0) (DE.r de_int))) dm_nil)))) dss_nil)
 (dss_one (ds_ret (de_add (DE.r (de_add (DE.r (de_callTy call_str_int rf_str1 n_str (dm_r (DE.r (de_ix hr (dr_var 0) (DE.r de_int))) dm_nil))) (DE.r de_str))) (DE.r (de_callTy call_str_int rf_str1 n_str (dm_r (DE.r (de_ix hr (dr_var 0) (DE.r de_int))) dm_nil)))))))) spec

theorem sc_rule_text : FnScope ["rule", "words"] ["rule"] (defScope s_rule_text) := ⟨rfl, rfl, rfl, by decide +kernel, rfl, by decide +kernel, by decide +kernel⟩
theorem ok_rule_text {B : Bx} {base : Heap} {j : Nat} {f : Addr} {fd : FuncData} {sp : SpM} {p_fraction_text : SpM} (fl_title : FldF B "title" ["Rule"]) (fl_head : FldF B "head" ["Rule"]) (fl_parts : FldF B "parts" ["Rule"]) (n_list : B.mg "list" = none) (fl_weight : FldF B "weight" ["Rule"]) (fl_tag : FldF B "tag" ["Rule"]) (fl_under : FldF B "under" ["Rule"]) (h_fraction_text : Fn B base j "fraction_text" [false] p_fraction_text) (F : FunD B.K "rule_text" "rule_text" (defArgs s_rule_text) (defBody s_rule_text) (defScope s_rule_text) [] [] f fd)
    (spec : ∀ ds M Q E, sp ds M Q E → t_rule_text p_fraction_text (endsOf Q E) (startE [false] 2 ds) M) : FnB B base (j + 1) f fd ["rule"] [false] sp :=
  fnok_of F sc_rule_text (fun cdv A outer s H E hr tk hp =>
 (dss_cons (ds_own (i := 1) sc_rule_text.nd (dn_cat (DE.r (de_add (DE.r (DN.fz (dn_lst (dm_e de_str (dm_e (de_fld fl_title (dr_var 0)) (dm_e (de_fld fl_head (dr_var 0)) (dm_e de_str dm_nil))))))) (DE.r (DN.fz (dn_list n_list (dm_r (DE.r (de_fld fl_parts (dr_var 0))) dm_nil)))))) (DE.r (DN.fz (dn_lst (dm_e de_str (dm_e (de_call h_fraction_text hr tk (Nat.le_refl _) (dm_e (de_fld fl_weight (dr_var 0)) dm_nil)) dm_nil)))))))
 (dss_cons (ds_if (dt_cmp (op_neA hr) rf_ne (DE.r (de_fld fl_tag (dr_var 0))) (DE.r de_str) (nomark _)) (dss_one (ds_augL 1 sc_rule_text.nd (DE.r (DN.fz (dn_lst (dm_e de_str (dm_e (de_fld fl_tag (dr_var 0)) dm_nil))))))) dss_nil)
 (dss_cons (ds_if (dt_cmp op_notN rf_notN (DE.r (de_fld fl_under (dr_var 0))) (DE.r de_non) (nomark _)) (dss_one (ds_augL 1 sc_rule_text.nd (DE.r (de_add (DE.r (DN.fz (dn_lst (dm_e de_str dm_nil)))) (DE.r (DN.fz (dn_list n_list (dm_r (DE.r (de_fld fl_under (dr_var 0))) dm_nil)))))))) dss_nil)
 (dss_one (ds_ret (de_sm (fun ho ha => pe_bm PySem.F.plainAttrs_str PySem.F.slot_str_join PySem.F.type_str_join mt_join ho ha) rf_join (DE.r de_str) (dm_r (dr_var 1) dm_nil)))))))) spec

theorem sc_grammar_text : FnScope ["grammar", "lines", "rule"] ["grammar"] (defScope s_grammar_text) := ⟨rfl, rfl, rfl, by decide +kernel, rfl, by decide +kernel, by decide +kernel⟩
theorem ok_grammar_text {B : Bx} {base : Heap} {j : Nat} {f : Addr} {fd : FuncData} {sp : SpM} {p_rule_text : SpM} (fl_scale : FldF B "scale" ["Grammar"]) (fl_start : FldF B "start" ["Grammar"]) (fl_rules : FldF B "rules" ["Grammar"]) (h_rule_text : Fn B base j "rule_text" [false] p_rule_text) (F : FunD B.K "grammar_text" "grammar_text" (defArgs s_grammar_text) (defBody s_grammar_text) (defScope s_grammar_text) [] [] f fd)
    (spec : ∀ ds M Q E, sp ds M Q E → t_grammar_text p_rule_text (endsOf Q E) (startE [false] 3 ds) M) : FnB B base (j + 1) f fd ["grammar"] [false] sp :=
  fnok_of F sc_grammar_text (fun cdv A outer s H E hr tk hp =>
 (dss_cons (ds_own (i := 1) sc_grammar_text.nd (dn_lst (dm_e (de_add (DE.r de_str) (DE.r (de_fld fl_scale (dr_var 0)))) (dm_e (de_add (DE.r de_str) (DE.r (de_fld fl_start (dr_var 0)))) dm_nil))))
 (dss_cons (ds_for hp rfl (di_any (de_fld fl_rules (dr_var 0))) (dg_name (i := 2) sc_grammar_text.nd) (dss_one (ds_lmut (fun ha => pe_bm PySem.F.plainAttrs_list PySem.F.slot_list_append PySem.F.type_list_append mt_append (pv 1) ha) rf_append (dm_e (de_call h_rule_text hr tk (Nat.le_refl _) (dm_e (de_var 2) dm_nil)) dm_nil))))
 (dss_one (ds_ret (de_sm (fun ho ha => pe_bm PySem.F.plainAttrs_str PySem.F.slot_str_join PySem.F.type_str_join mt_join ho ha) rf_join (DE.r de_str) (dm_r (dr_var 1) dm_nil))))))) spec

theorem sc_line_words : FnScope ["line", "words"] ["line"] (defScope s_line_words) := ⟨rfl, rfl, rfl, by decide +kernel, rfl, by decide +kernel, by decide +kernel⟩
theorem ok_line_words {B : Bx} {base : Heap} {j : Nat} {f : Addr} {fd : FuncData} {sp : SpM} (xc_NoLine : XcF B "NoLine") (F : FunD B.K "line_words" "line_words" (defArgs s_line_words) (defBody s_line_words) (defScope s_line_words) [] [] f fd)
    (spec : ∀ ds M Q E, sp ds M Q E → t_line_words (endsOf Q E) (startE [false] 2 ds) M) : FnB B base (j + 1) f fd ["line"] [false] sp :=
  fnok_of F sc_line_words (fun cdv A outer s H E hr tk hp =>
 (dss_cons (ds_set (i := 1) sc_line_words.nd (de_sm (fun ho ha => pe_bm PySem.F.plainAttrs_str PySem.F.slot_str_split PySem.F.type_str_split mt_split ho ha) rf_split (dr_var 0) (dm_r (DE.r de_str) dm_nil)))
 (dss_cons (ds_if (dt_cmp (op_inA hr) rf_in (DE.r de_str) (dr_var 1) (by rfl)) (dss_one (ds_raise tk xc_NoLine)) dss_nil)
 (dss_one (ds_ret (de_var 1)))))) spec

theorem sc_is_name_k12 : FnScope ["text", "sign"] ["text"] (defScope s_is_name_k12) := ⟨rfl, rfl, rfl, by decide +kernel, rfl, by decide +kernel, by decide +kernel⟩
theorem ok_is_name_k12 {B : Bx} {base : Heap} {j : Nat} {f : Addr} {fd : FuncData} {sp : SpM} (n_len : B.mg "len" = none) (c_SMALL : ∃ t, B.mg "SMALL" = some (.str "abcdefghijklmnopqrstuvwxyz" t)) (c_GREAT : ∃ t, B.mg "GREAT" = some (.str "ABCDEFGHIJKLMNOPQRSTUVWXYZ" t)) (c_FIGURES_grammars : ∃ t, B.mg "FIGURES_grammars" = some (.str "0123456789" t)) (F : FunD B.K "is_name" "is_name" (defArgs s_is_name_k12) (defBody s_is_name_k12) (defScope s_is_name_k12) [] [] f fd)
    (spec : ∀ ds M Q E, sp ds M Q E → t_is_name_k12 (endsOf Q E) (startE [false] 2 ds) M) : FnB B base (j + 1) f fd ["text"] [false] sp :=
  fnok_of F sc_is_name_k12 (fun cdv A outer s H E hr tk hp =>
 (dss_cons (ds_if (dt_not (dt_chain op_le rf_le op_le rf_le (DE.r de_int) (DE.r (de_callB call_lenA rf_len n_len (dm_r (dr_var 0) dm_nil))) (DE.r de_int))) (dss_one (ds_ret de_bl)) dss_nil)
 (dss_cons (ds_for hp rfl (di_any (de_var 0)) (dg_name (i := 1) sc_is_name_k12.nd) (dss_one (ds_if (DW.t (dw_and (dt_cmp (op_notInA hr) rf_notIn (dr_var 1) (DE.r (de_gstr c_SMALL.choose_spec)) (by rfl)) (dw_and (dt_cmp (op_notInA hr) rf_notIn (dr_var 1) (DE.r (de_gstr c_GREAT.choose_spec)) (by rfl)) (dw_and1 (dt_cmp (op_notInA hr) rf_notIn (dr_var 1) (DE.r (de_gstr c_FIGURES_grammars.choose_spec)) (by rfl)))))) (dss_one (ds_ret de_bl)) dss_nil)))
 (dss_one (ds_ret de_bl))))) spec

theorem sc_is_word : FnScope ["text"] ["text"] (defScope s_is_word) := ⟨rfl, rfl, rfl, by decide +kernel, rfl, by decide +kernel, by decide +kernel⟩
theorem ok_is_word {B : Bx} {base : Heap} {j : Nat} {f : Addr} {fd : FuncData} {sp : SpM} {p_is_name_k12 : SpM} (c_GREAT : ∃ t, B.mg "GREAT" = some (.str "ABCDEFGHIJKLMNOPQRSTUVWXYZ" t)) (h_is_name_k12 : Fn B base j "is_name" [false] p_is_name_k12) (F : FunD B.K "is_word" "is_word" (defArgs s_is_word) (defBody s_is_word) (defScope s_is_word) [] [] f fd)
    (spec : ∀ ds M Q E, sp ds M Q E → t_is_word p_is_name_k12 (endsOf Q E) (startE [false] 1 ds) M) : FnB B base (j + 1) f fd ["text"] [false] sp :=
  fnok_of F sc_is_word (fun cdv A outer s H E hr tk hp =>
 (dss_one (ds_ret (de_and (de_call h_is_name_k12 hr tk (Nat.le_refl _) (dm_e (de_var 0) dm_nil)) (de_one (de_cmp (op_notInA hr) rf_notIn (DE.r (de_ix hr (dr_var 0) (DE.r de_int))) (DE.r (de_gstr c_GREAT.choose_spec)) (by rfl))))))) spec

theorem sc_is_kind : FnScope ["text"] ["text"] (defScope s_is_kind) := ⟨rfl, rfl, rfl, by decide +kernel, rfl, by decide +kernel, by decide +kernel⟩
theorem ok_is_kind {B : Bx} {base : Heap} {j : Nat} {f : Addr} {fd : FuncData} {sp : SpM} {p_is_name_k12 : SpM} (c_GREAT : ∃ t, B.mg "GREAT" = some (.str "ABCDEFGHIJKLMNOPQRSTUVWXYZ" t)) (h_is_name_k12 : Fn B base j "is_name" [false] p_is_name_k12) (F : FunD B.K "is_kind" "is_kind" (defArgs s_is_kind) (defBody s_is_kind) (defScope s_is_kind) [] [] f fd)
    (spec : ∀ ds M Q E, sp ds M Q E → t_is_kind p_is_name_k12 (endsOf Q E) (startE [false] 1 ds) M) : FnB B base (j + 1) f fd ["text"] [false] sp :=
  fnok_of F sc_is_kind (fun cdv A outer s H E hr tk hp =>
 (dss_one (ds_ret (de_and (de_call h_is_name_k12 hr tk (Nat.le_refl _) (dm_e (de_var 0) dm_nil)) (de_one (de_cmp (op_inA hr) rf_in (DE.r (de_ix hr (dr_var 0) (DE.r de_int))) (DE.r (de_gstr c_GREAT.choose_spec)) (by rfl))))))) spec

theorem sc_are_figures_k12 : FnScope ["text", "sign"] ["text"] (defScope s_are_figures_k12) := ⟨rfl, rfl, rfl, by decide +kernel, rfl, by decide +kernel, by decide +kernel⟩
theorem ok_are_figures_k12 {B : Bx} {base : Heap} {j : Nat} {f : Addr} {fd : FuncData} {sp : SpM} (n_len : B.mg "len" = none) (c_MOST_FIGURES : ∃ t, B.mg "MOST_FIGURES" = some (.int 40 t)) (c_FIGURES_fractions : ∃ t, B.mg "FIGURES_fractions" = some (.str "0123456789" t)) (F : FunD B.K "are_figures" "are_figures" (defArgs s_are_figures_k12) (defBody s_are_figures_k12) (defScope s_are_figures_k12) [] [] f fd)
    (spec : ∀ ds M Q E, sp ds M Q E → t_are_figures_k12 (endsOf Q E) (startE [false] 2 ds) M) : FnB B base (j + 1) f fd ["text"] [false] sp :=
  fnok_of F sc_are_figures_k12 (fun cdv A outer s H E hr tk hp =>
 (dss_cons (ds_if (dt_not (dt_chain op_le rf_le op_le rf_le (DE.r de_int) (DE.r (de_callB call_lenA rf_len n_len (dm_r (dr_var 0) dm_nil))) (DE.r (de_gint c_MOST_FIGURES.choose_spec)))) (dss_one (ds_ret de_bl)) dss_nil)
 (dss_cons (ds_for hp rfl (di_any (de_var 0)) (dg_name (i := 1) sc_are_figures_k12.nd) (dss_one (ds_if (dt_cmp (op_notInA hr) rf_notIn (dr_var 1) (DE.r (de_gstr c_FIGURES_fractions.choose_spec)) (by rfl)) (dss_one (ds_ret de_bl)) dss_nil)))
 (dss_one (ds_ret (de_or (de_cmp (op_eqA hr) rf_eq (dr_var 0) (DE.r de_str) (nomark _)) (de_one (de_not (de_sm (fun ho ha => pe_bm PySem.F.plainAttrs_str PySem.F.slot_str_startswith PySem.F.type_str_startswith mt_startswith ho ha) rf_starts (dr_var 0) (dm_r (DE.r de_str) dm_nil)))))))))) spec

theorem sc_common_divisor : FnScope ["one", "other", "rest"] ["one", "other"] (defScope s_common_divisor) := ⟨rfl, rfl, rfl, by decide +kernel, rfl, by decide +kernel, by decide +kernel⟩
theorem ok_common_divisor {B : Bx} {base : Heap} {j : Nat} {f : Addr} {fd : FuncData} {sp : SpM} (n_abs : B.mg "abs" = none) (F : FunD B.K "common_divisor" "common_divisor" (defArgs s_common_divisor) (defBody s_common_divisor) (defScope s_common_divisor) [] [] f fd)
    (spec : ∀ ds M Q E, sp ds M Q E → t_common_divisor (endsOf Q E) (startE [false, false] 3 ds) M) : FnB B base (j + 1) f fd ["one", "other"] [false, false] sp :=
  fnok_of F sc_common_divisor (fun cdv A outer s H E hr tk hp =>
 (dss_cons (ds_set (i := 0) sc_common_divisor.nd (de_callB call_abs rf_abs n_abs (dm_r (dr_var 0) dm_nil)))
 (dss_cons (ds_set (i := 1) sc_common_divisor.nd (de_callB call_abs rf_abs n_abs (dm_r (dr_var 1) dm_nil)))
 (dss_cons (ds_while hp (dt_cmp (op_neA hr) rf_ne (dr_var 1) (DE.r de_int) (nomark _)) (dss_cons (ds_set (i := 2) sc_common_divisor.nd (de_mod (dr_var 0) (dr_var 1)))
 (dss_cons (ds_set (i := 0) sc_common_divisor.nd (de_var 1))
 (dss_one (ds_set (i := 1) sc_common_divisor.nd (de_var 2))))))
 (dss_one (ds_ret (de_var 0))))))) spec

theorem sc_fraction : FnScope ["top", "bottom", "shared"] ["top", "bottom"] (defScope s_fraction) := ⟨rfl, rfl, rfl, by decide +kernel, rfl, by decide +kernel, by decide +kernel⟩
theorem ok_fraction {B : Bx} {base : Heap} {j : Nat} {f : Addr} {fd : FuncData} {sp : SpM} {p_common_divisor : SpM} (h_common_divisor : Fn B base j "common_divisor" [false, false] p_common_divisor) (F : FunD B.K "fraction" "fraction" (defArgs s_fraction) (defBody s_fraction) (defScope s_fraction) [] [] f fd)
    (spec : ∀ ds M Q E, sp ds M Q E → t_fraction p_common_divisor (endsOf Q E) (startE [false, false] 3 ds) M) : FnB B base (j + 1) f fd ["top", "bottom"] [false, false] sp :=
  fnok_of F sc_fraction (fun cdv A outer s H E hr tk hp =>
 (dss_cons (ds_set (i := 2) sc_fraction.nd (de_call h_common_divisor hr tk (Nat.le_refl _) (dm_e (de_var 0) (dm_e (de_var 1) dm_nil))))
 (dss_cons (ds_if (dt_cmp op_lt rf_lt (dr_var 1) (DE.r de_int) (nomark _)) (dss_one (ds_set (i := 2) sc_fraction.nd (de_neg (dr_var 2)))) dss_nil)
 (dss_one (ds_ret (de_tup (dm_e (de_fdiv (dr_var 0) (dr_var 2)) (dm_e (de_fdiv (dr_var 1) (dr_var 2)) dm_nil)))))))) spec

theorem sc_read_fraction : FnScope ["text", "above", "stroke", "beneath", "figures"] ["text"] (defScope s_read_fraction) := ⟨rfl, rfl, rfl, by decide +kernel, rfl, by decide +kernel, by decide +kernel⟩
theorem ok_read_fraction {B : Bx} {base : Heap} {j : Nat} {f : Addr} {fd : FuncData} {sp : SpM} {p_are_figures_k12 : SpM} {p_fraction : SpM} (xc_NoLine : XcF B "NoLine") (n_int : B.mg "int" = none) (h_are_figures_k12 : Fn B base j "are_figures" [false] p_are_figures_k12) (h_fraction : Fn B base j "fraction" [false, false] p_fraction) (F : FunD B.K "read_fraction" "read_fraction" (defArgs s_read_fraction) (defBody s_read_fraction) (defScope s_read_fraction) [] [] f fd)
    (spec : ∀ ds M Q E, sp ds M Q E → t_read_fraction p_are_figures_k12 p_fraction (endsOf Q E) (startE [false] 5 ds) M) : FnB B base (j + 1) f fd ["text"] [false] sp :=
  fnok_of F sc_read_fraction (fun cdv A outer s H E hr tk hp =>
 (dss_cons (ds_asg (de_sm (fun ho ha => pe_bm PySem.F.plainAttrs_str PySem.F.slot_str_partition PySem.F.type_str_partition mt_partition ho ha) rf_part (dr_var 0) (dm_r (DE.r de_str) dm_nil)) (dg_tup rfl (dgs_cons (dg_name (i := 1) sc_read_fraction.nd) (dgs_cons (dg_name (i := 2) sc_read_fraction.nd) (dgs_cons (dg_name (i := 3) sc_read_fraction.nd) dgs_nil)))))
 (dss_cons (ds_set (i := 4) sc_read_fraction.nd (de_var 1))
 (dss_cons (ds_if (dt_tru (DE.r (de_sm (fun ho ha => pe_bm PySem.F.plainAttrs_str PySem.F.slot_str_startswith PySem.F.type_str_startswith mt_startswith ho ha) rf_starts (dr_var 1) (dm_r (DE.r de_str) dm_nil)))) (dss_one (ds_set (i := 4) sc_read_fraction.nd (de_sl (dr_var 1) (do_some (DE.r de_int)) do_none))) dss_nil)
 (dss_cons (ds_if (DW.t (dw_or (dt_not (dt_tru (DE.r (de_call h_are_figures_k12 hr tk (Nat.le_refl _) (dm_e (de_var 4) dm_nil))))) (dw_or1 (dt_cmp (op_eqA hr) rf_eq (dr_var 1) (DE.r de_str) (nomark _))))) (dss_one (ds_raise tk xc_NoLine)) dss_nil)
 (dss_cons (ds_if (dt_cmp (op_eqA hr) rf_eq (dr_var 2) (DE.r de_str) (nomark _)) (dss_one (ds_ret (de_tup (dm_e (de_callTy call_intA rf_int1 n_int (dm_r (dr_var 1) dm_nil)) (dm_e de_int dm_nil))))) dss_nil)
 (dss_cons (ds_if (DW.t (dw_or (dt_not (dt_tru (DE.r (de_call h_are_figures_k12 hr tk (Nat.le_refl _) (dm_e (de_var 3) dm_nil))))) (dw_or1 (dt_cmp (op_eqA hr) rf_eq (dr_var 3) (DE.r de_str) (nomark _))))) (dss_one (ds_raise tk xc_NoLine)) dss_nil)
 (dss_one (ds_ret (de_call h_fraction hr tk (Nat.le_refl _) (dm_e (de_callTy call_intA rf_int1 n_int (dm_r (dr_var 1) dm_nil)) (dm_e (de_callTy call_intA rf_int1 n_int (dm_r (dr_var 3) dm_nil)) dm_nil)))))))))))) spec

theorem sc_all_words : FnScope ["texts", "text"] ["texts"] (defScope s_all_words) := ⟨rfl, rfl, rfl, by decide +kernel, rfl, by decide +kernel, by decide +kernel⟩
theorem ok_all_words {B : Bx} {base : Heap} {j : Nat} {f : Addr} {fd : FuncData} {sp : SpM} {p_is_word : SpM} (n_all : B.mg "all" = none) (h_is_word : Fn B base j "is_word" [false] p_is_word) (F : FunD B.K "all_words" "all_words" (defArgs s_all_words) (defBody s_all_words) (defScope s_all_words) [] [] f fd)
    (spec : ∀ ds M Q E, sp ds M Q E → t_all_words p_is_word (endsOf Q E) (startE [true] 2 ds) M) : FnB B base (j + 1) f fd ["texts"] [true] sp :=
  fnok_of F sc_all_words (fun cdv A outer s H E hr tk hp =>
 (dss_one (ds_ret (de_callB (cr_all rfl) rf_all n_all (dm_r (DE.r (DN.fz (dn_lc (own := [("text", 1)]) sc_all_words.nd (di_borC 0) (blkOk_by (own := [("text", 1)]) (N := ["texts", "text"]) (sc := defScope s_all_words) (by decide +kernel)) (fun _ => (dgk_name (i := 1) sc_all_words.nd)) (fun _ => dts_nil) (fun _ => (de_call h_is_word hr takes0 (Nat.le_refl _) (dm_e (de_var 1) dm_nil)))))) dm_nil))))) spec

theorem sc_read_ties : FnScope ["words", "tag"] ["words"] (defScope s_read_ties) := ⟨rfl, rfl, rfl, by decide +kernel, rfl, by decide +kernel, by decide +kernel⟩
theorem ok_read_ties {B : Bx} {base : Heap} {j : Nat} {f : Addr} {fd : FuncData} {sp : SpM} {p_is_word : SpM} {p_all_words : SpM} (n_len : B.mg "len" = none) (xc_NoLine : XcF B "NoLine") (n_tuple : B.mg "tuple" = none) (h_is_word : Fn B base j "is_word" [false] p_is_word) (h_all_words : Fn B base j "all_words" [true] p_all_words) (F : FunD B.K "read_ties" "read_ties" (defArgs s_read_ties) (defBody s_read_ties) (defScope s_read_ties) [] [] f fd)
    (spec : ∀ ds M Q E, sp ds M Q E → t_read_ties p_is_word p_all_words (endsOf Q E) (startE [false] 2 ds) M) : FnB B base (j + 1) f fd ["words"] [false] sp :=
  fnok_of F sc_read_ties (fun cdv A outer s H E hr tk hp =>
 (dss_cons (ds_set (i := 1) sc_read_ties.nd de_str)
 (dss_cons (ds_if (DW.t (dw_and (dt_cmp op_gt rf_gt (DE.r (de_callB call_lenA rf_len n_len (dm_r (dr_var 0) dm_nil))) (DE.r de_int) (nomark _)) (dw_and1 (dt_cmp (op_eqA hr) rf_eq (DE.r (de_ix hr (dr_var 0) (DE.r de_int))) (DE.r de_str) (nomark _))))) (dss_cons (ds_if (DW.t (dw_or (dt_cmp op_lt rf_lt (DE.r (de_callB call_lenA rf_len n_len (dm_r (dr_var 0) dm_nil))) (DE.r de_int) (nomark _)) (dw_or1 (dt_not (dt_tru (DE.r (de_call h_is_word hr tk (Nat.le_refl _) (dm_e (de_ix hr (dr_var 0) (DE.r de_int)) dm_nil)))))))) (dss_one (ds_raise tk xc_NoLine)) dss_nil)
 (dss_cons (ds_set (i := 1) sc_read_ties.nd (de_ix hr (dr_var 0) (DE.r de_int)))
 (dss_one (ds_set (i := 0) sc_read_ties.nd (de_sl (dr_var 0) (do_some (DE.r de_int)) do_none))))) dss_nil)
 (dss_cons (ds_if (dt_cmp (op_eqA hr) rf_eq (DE.r (de_callB call_lenA rf_len n_len (dm_r (dr_var 0) dm_nil))) (DE.r de_int) (nomark _)) (dss_one (ds_ret (de_tup (dm_e (de_var 1) (dm_e de_non dm_nil))))) dss_nil)
 (dss_cons (ds_if (DW.t (dw_or (dt_cmp (op_neA hr) rf_ne (DE.r (de_ix hr (dr_var 0) (DE.r de_int))) (DE.r de_str) (nomark _)) (dw_or (dt_cmp op_lt rf_lt (DE.r (de_callB call_lenA rf_len n_len (dm_r (dr_var 0) dm_nil))) (DE.r de_int) (nomark _)) (dw_or1 (dt_not (dt_tru (DE.r (de_call h_all_words hr tk (Nat.le_refl _) (dm_r (DE.r (de_sl (dr_var 0) (do_some (DE.r de_int)) do_none)) dm_nil))))))))) (dss_one (ds_raise tk xc_NoLine)) dss_nil)
 (dss_one (ds_ret (de_tup (dm_e (de_var 1) (dm_e (de_callTy call_tuple_of rf_tuple1 n_tuple (dm_r (DE.r (de_sl (dr_var 0) (do_some (DE.r de_int)) do_none)) dm_nil)) dm_nil)))))))))) spec

theorem sc_Rule_init : FnScope ["self", "title", "head", "parts", "weight", "tag", "under", "part"] ["self", "title", "head", "parts", "weight", "tag", "under"] (defScope s_Rule_init) := ⟨rfl, rfl, rfl, by decide +kernel, rfl, by decide +kernel, by decide +kernel⟩
theorem ok_Rule_init {B : Bx} {base : Heap} {j : Nat} {f : Addr} {fd : FuncData} {sp : SpM} {p_is_word : SpM} {p_is_kind : SpM} {p_is_name_k12 : SpM} {p_all_words : SpM} (xc_NoRule : XcF B "NoRule") (n_len : B.mg "len" = none) (n_all : B.mg "all" = none) (fl_title : FldF B "title" ["Rule"]) (fl_head : FldF B "head" ["Rule"]) (fl_parts : FldF B "parts" ["Rule"]) (n_tuple : B.mg "tuple" = none) (fl_weight : FldF B "weight" ["Rule"]) (fl_tag : FldF B "tag" ["Rule"]) (fl_under : FldF B "under" ["Rule"]) (h_is_word : Fn B base j "is_word" [false] p_is_word) (h_is_kind : Fn B base j "is_kind" [false] p_is_kind) (h_is_name_k12 : Fn B base j "is_name" [false] p_is_name_k12) (h_all_words : Fn B base j "all_words" [true] p_all_words) (F : FunD B.K "__init__" "Rule.__init__" (defArgs s_Rule_init) (defBody s_Rule_init) (defScope s_Rule_init) [.str "", .non] [] f fd)
    (spec : ∀ ds M Q E, sp ds M Q E → t_Rule_init p_is_word p_is_kind p_is_name_k12 p_all_words (endsOf Q E) (startE [false, false, false, true, false, false, true] 8 ds) M) : FnB B base (j + 1) f fd ["self", "title", "head", "parts", "weight", "tag", "under"] [false, false, false, true, false, false, true] sp :=
  fnok_of F sc_Rule_init (fun cdv A outer s H E hr tk hp =>
 (dss_cons (ds_if (DW.t (dw_or (dt_not (dt_tru (DE.r (de_call h_is_word hr tk (Nat.le_refl _) (dm_e (de_var 1) dm_nil))))) (dw_or1 (dt_not (dt_tru (DE.r (de_call h_is_kind hr tk (Nat.le_refl _) (dm_e (de_var 2) dm_nil)))))))) (dss_one (ds_raise tk xc_NoRule)) dss_nil)
 (dss_cons (ds_if (DW.t (dw_or (dt_not (dt_chain op_le rf_le op_le rf_le (DE.r de_int) (DE.r (de_callB call_lenA rf_len n_len (dm_r (dr_var 3) dm_nil))) (DE.r de_int))) (dw_or1 (dt_not (dt_tru (DE.r (de_callB (cr_all rfl) rf_all n_all (dm_r (DE.r (DN.fz (dn_lc (own := [("part", 7)]) sc_Rule_init.nd (di_borC 3) (blkOk_by (own := [("part", 7)]) (N := ["self", "title", "head", "parts", "weight", "tag", "under", "part"]) (sc := defScope s_Rule_init) (by decide +kernel)) (fun _ => (dgk_name (i := 7) sc_Rule_init.nd)) (fun _ => dts_nil) (fun _ => (de_call h_is_name_k12 hr takes0 (Nat.le_refl _) (dm_e (de_var 7) dm_nil)))))) dm_nil)))))))) (dss_one (ds_raise tk xc_NoRule)) dss_nil)
 (dss_cons (ds_if (DW.t (dw_and (dt_cmp (op_neA hr) rf_ne (dr_var 5) (DE.r de_str) (nomark _)) (dw_and1 (dt_not (dt_tru (DE.r (de_call h_is_word hr tk (Nat.le_refl _) (dm_e (de_var 5) dm_nil)))))))) (dss_one (ds_raise tk xc_NoRule)) dss_nil)
 (dss_cons (ds_if (DW.t (dw_and (dt_cmp op_notN rf_notN (dr_var 6) (DE.r de_non) (nomark _)) (dw_and1 (DW.t (dw_or (dt_cmp (op_eqA hr) rf_eq (DE.r (de_callB call_lenA rf_len n_len (dm_r (dr_var 6) dm_nil))) (DE.r de_int) (nomark _)) (dw_or1 (dt_not (dt_tru (DE.r (de_call h_all_words hr tk (Nat.le_refl _) (dm_r (dr_var 6) dm_nil))))))))))) (dss_one (ds_raise tk xc_NoRule)) dss_nil)
 (dss_cons (ds_setF fl_title (pv 0) (de_var 1))
 (dss_cons (ds_setF fl_head (pv 0) (de_var 2))
 (dss_cons (ds_setF fl_parts (pv 0) (de_callTy call_tuple_of rf_tuple1 n_tuple (dm_r (dr_var 3) dm_nil)))
 (dss_cons (ds_setF fl_weight (pv 0) (de_var 4))
 (dss_cons (ds_setF fl_tag (pv 0) (de_var 5))
 (dss_cons (ds_setF fl_under (pv 0) (de_varP 6))
 (dss_one (ds_if (dt_cmp op_notN rf_notN (dr_var 6) (DE.r de_non) (nomark _)) (dss_one (ds_setF fl_under (pv 0) (de_callTy call_tuple_of rf_tuple1 n_tuple (dm_r (dr_var 6) dm_nil)))) dss_nil))))))))))))) spec

theorem sc_read_rule : FnScope ["words", "colon", "parts", "weight", "ties", "part"] ["words"] (defScope s_read_rule) := ⟨rfl, rfl, rfl, by decide +kernel, rfl, by decide +kernel, by decide +kernel⟩
theorem ok_read_rule {B : Bx} {base : Heap} {j : Nat} {f : Addr} {fd : FuncData} {sp : SpM} {p_is_word : SpM} {p_is_kind : SpM} {p_is_name_k12 : SpM} {p_read_fraction : SpM} {p_read_ties : SpM} {p_Rule_init : SpM} {j0 : Nat} (n_len : B.mg "len" = none) (xc_NoLine : XcF B "NoLine") (n_all : B.mg "all" = none) (h_is_word : Fn B base j "is_word" [false] p_is_word) (h_is_kind : Fn B base j "is_kind" [false] p_is_kind) (h_is_name_k12 : Fn B base j "is_name" [false] p_is_name_k12) (h_read_fraction : Fn B base j "read_fraction" [false] p_read_fraction) (h_read_ties : Fn B base j "read_ties" [false] p_read_ties) (h_Rule_0 : MkF B base j0 "Rule" (false :: ([false, false, true, false, false, true] ++ [])) [] p_Rule_init) (hj0 : j0 + 1 ≤ j) (F : FunD B.K "read_rule" "read_rule" (defArgs s_read_rule) (defBody s_read_rule) (defScope s_read_rule) [] [] f fd)
    (spec : ∀ ds M Q E, sp ds M Q E → t_read_rule p_is_word p_is_kind p_is_name_k12 p_read_fraction p_read_ties p_Rule_init (endsOf Q E) (startE [false] 6 ds) M) : FnB B base (j + 1) f fd ["words"] [false] sp :=
  fnok_of F sc_read_rule (fun cdv A outer s H E hr tk hp =>
 (dss_cons (ds_if (DW.t (dw_or (dt_cmp (op_neA hr) rf_ne (DE.r (de_ix hr (dr_var 0) (DE.r de_int))) (DE.r de_str) (nomark _)) (dw_or (dt_cmp op_lt rf_lt (DE.r (de_callB call_lenA rf_len n_len (dm_r (dr_var 0) dm_nil))) (DE.r de_int) (nomark _)) (dw_or (dt_cmp (op_neA hr) rf_ne (DE.r (de_ix hr (dr_var 0) (DE.r de_int))) (DE.r de_str) (nomark _)) (dw_or1 (dt_cmp (op_notInA hr) rf_notIn (DE.r de_str) (dr_var 0) (by rfl))))))) (dss_one (ds_raise tk xc_NoLine)) dss_nil)
 (dss_cons (ds_set (i := 1) sc_read_rule.nd (de_lidx (fun ho ha => pe_bm PySem.F.plainAttrs_list PySem.F.slot_list_index PySem.F.type_list_index mt_index ho ha) (dr_var 0) (dm_r (DE.r de_str) dm_nil)))
 (dss_cons (ds_set (i := 2) sc_read_rule.nd (de_sl (dr_var 0) (do_some (DE.r de_int)) (do_some (dr_var 1))))
 (dss_cons (ds_if (DW.t (dw_or (dt_not (dt_tru (DE.r (de_call h_is_word hr tk (Nat.le_refl _) (dm_e (de_ix hr (dr_var 0) (DE.r de_int)) dm_nil))))) (dw_or (dt_not (dt_tru (DE.r (de_call h_is_kind hr tk (Nat.le_refl _) (dm_e (de_ix hr (dr_var 0) (DE.r de_int)) dm_nil))))) (dw_or1 (dt_cmp (op_eqA hr) rf_eq (DE.r (de_callB call_lenA rf_len n_len (dm_r (dr_var 0) dm_nil))) (DE.r (de_add (dr_var 1) (DE.r de_int))) (nomark _)))))) (dss_one (ds_raise tk xc_NoLine)) dss_nil)
 (dss_cons (ds_if (DW.t (dw_or (dt_not (dt_chain op_le rf_le op_le rf_le (DE.r de_int) (DE.r (de_callB call_lenA rf_len n_len (dm_r (dr_var 2) dm_nil))) (DE.r de_int))) (dw_or1 (dt_not (dt_tru (DE.r (de_callB (cr_all rfl) rf_all n_all (dm_r (DE.r (DN.fz (dn_lc (own := [("part", 5)]) sc_read_rule.nd (di_any (de_var 2)) (blkOk_by (own := [("part", 5)]) (N := ["words", "colon", "parts", "weight", "ties", "part"]) (sc := defScope s_read_rule) (by decide +kernel)) (fun _ => (dgk_name (i := 5) sc_read_rule.nd)) (fun _ => dts_nil) (fun _ => (de_call h_is_name_k12 hr takes0 (Nat.le_refl _) (dm_e (de_var 5) dm_nil)))))) dm_nil)))))))) (dss_one (ds_raise tk xc_NoLine)) dss_nil)
 (dss_cons (ds_set (i := 3) sc_read_rule.nd (de_call h_read_fraction hr tk (Nat.le_refl _) (dm_e (de_ix hr (dr_var 0) (DE.r (de_add (dr_var 1) (DE.r de_int)))) dm_nil)))
 (dss_cons (ds_set (i := 4) sc_read_rule.nd (de_call h_read_ties hr tk (Nat.le_refl _) (dm_e (de_sl (dr_var 0) (do_some (DE.r (de_add (dr_var 1) (DE.r de_int)))) do_none) dm_nil)))
 (dss_one (ds_ret (de_make (ms := [false, false, true, false, false, true]) (dv := []) h_Rule_0 hr tk hj0 (dm_e (de_ix hr (dr_var 0) (DE.r de_int)) (dm_e (de_ix hr (dr_var 0) (DE.r de_int)) (dm_r (dr_var 2) (dm_e (de_var 3) (dm_e (de_ix hr (dr_var 4) (DE.r de_int)) (dm_r (DE.r (de_ix hr (dr_var 4) (DE.r de_int))) dm_nil))))))))))))))))) spec

theorem sc_grammar_rows : FnScope ["lines", "rows", "line", "words"] ["lines"] (defScope s_grammar_rows) := ⟨rfl, rfl, rfl, by decide +kernel, rfl, by decide +kernel, by decide +kernel⟩
theorem ok_grammar_rows {B : Bx} {base : Heap} {j : Nat} {f : Addr} {fd : FuncData} {sp : SpM} {p_line_words : SpM} {p_is_word : SpM} {p_is_kind : SpM} {p_read_rule : SpM} (n_len : B.mg "len" = none) (xc_NoLine : XcF B "NoLine") (h_line_words : Fn B base j "line_words" [false] p_line_words) (h_is_word : Fn B base j "is_word" [false] p_is_word) (h_is_kind : Fn B base j "is_kind" [false] p_is_kind) (h_read_rule : Fn B base j "read_rule" [false] p_read_rule) (F : FunD B.K "grammar_rows" "grammar_rows" (defArgs s_grammar_rows) (defBody s_grammar_rows) (defScope s_grammar_rows) [] [] f fd)
    (spec : ∀ ds M Q E, sp ds M Q E → t_grammar_rows p_line_words p_is_word p_is_kind p_read_rule (endsOf Q E) (startE [false] 4 ds) M) : FnB B base (j + 1) f fd ["lines"] [false] sp :=
  fnok_of F sc_grammar_rows (fun cdv A outer s H E hr tk hp =>
 (dss_cons (ds_setLc (j := 1) (own := [("line", 2)]) sc_grammar_rows.nd (di_any (de_var 0)) (blkOk_by (own := [("line", 2)]) (N := ["lines", "rows", "line", "words"]) (sc := defScope s_grammar_rows) (by decide +kernel)) (fun _ => (dgk_name (i := 2) sc_grammar_rows.nd)) (fun _ => dts_nil) (fun _ => (de_call h_line_words hr takes0 (Nat.le_refl _) (dm_e (de_var 2) dm_nil))))
 (dss_cons (ds_if (DW.t (dw_or (dt_cmp op_lt rf_lt (DE.r (de_callB call_lenA rf_len n_len (dm_r (dr_var 1) dm_nil))) (DE.r de_int) (nomark _)) (dw_or (dt_cmp (op_neA hr) rf_ne (DE.r (de_callB call_lenA rf_len n_len (dm_r (DE.r (de_ix hr (dr_var 1) (DE.r de_int))) dm_nil))) (DE.r de_int) (nomark _)) (dw_or1 (dt_cmp (op_neA hr) rf_ne (DE.r (de_callB call_lenA rf_len n_len (dm_r (DE.r (de_ix hr (dr_var 1) (DE.r de_int))) dm_nil))) (DE.r de_int) (nomark _)))))) (dss_one (ds_raise tk xc_NoLine)) dss_nil)
 (dss_cons (ds_if (DW.t (dw_or (dt_cmp (op_neA hr) rf_ne (DE.r (de_ix hr (DE.r (de_ix hr (dr_var 1) (DE.r de_int))) (DE.r de_int))) (DE.r de_str) (nomark _)) (dw_or (dt_not (dt_tru (DE.r (de_call h_is_word hr tk (Nat.le_refl _) (dm_e (de_ix hr (DE.r (de_ix hr (dr_var 1) (DE.r de_int))) (DE.r de_int)) dm_nil))))) (dw_or (dt_cmp (op_neA hr) rf_ne (DE.r (de_ix hr (DE.r (de_ix hr (dr_var 1) (DE.r de_int))) (DE.r de_int))) (DE.r de_str) (nomark _)) (dw_or1 (dt_not (dt_tru (DE.r (de_call h_is_kind hr tk (Nat.le_refl _) (dm_e (de_ix hr (DE.r (de_ix hr (dr_var 1) (DE.r de_int))) (DE.r de_int)) dm_nil)))))))))) (dss_one (ds_raise tk xc_NoLine)) dss_nil)
 (dss_one (ds_ret (de_tup (dm_e (de_ix hr (DE.r (de_ix hr (dr_var 1) (DE.r de_int))) (DE.r de_int)) (dm_e (de_ix hr (DE.r (de_ix hr (dr_var 1) (DE.r de_int))) (DE.r de_int)) (dm_e (DN.fz (dn_lc (own := [("words", 3)]) sc_grammar_rows.nd (di_any (de_sl (dr_var 1) (do_some (DE.r de_int)) do_none)) (blkOk_by (own := [("words", 3)]) (N := ["lines", "rows", "line", "words"]) (sc := defScope s_grammar_rows) (by decide +kernel)) (fun _ => (dgk_name (i := 3) sc_grammar_rows.nd)) (fun _ => dts_nil) (fun _ => (de_call h_read_rule hr takes0 (Nat.le_refl _) (dm_e (de_var 3) dm_nil))))) dm_nil)))))))))) spec

theorem sc_left_out : FnScope ["line"] ["line"] (defScope s_left_out) := ⟨rfl, rfl, rfl, by decide +kernel, rfl, by decide +kernel, by decide +kernel⟩
theorem ok_left_out {B : Bx} {base : Heap} {j : Nat} {f : Addr} {fd : FuncData} {sp : SpM} (F : FunD B.K "left_out" "left_out" (defArgs s_left_out) (defBody s_left_out) (defScope s_left_out) [] [] f fd)
    (spec : ∀ ds M Q E, sp ds M Q E → t_left_out (endsOf Q E) (startE [false] 1 ds) M) : FnB B base (j + 1) f fd ["line"] [false] sp :=
  fnok_of F sc_left_out (fun cdv A outer s H E hr tk hp =>
 (dss_one (ds_ret (de_cmp (op_eqA hr) rf_eq (DE.r (de_sm (fun ho ha => pe_bm PySem.F.plainAttrs_str PySem.F.slot_str_strip PySem.F.type_str_strip mt_stripChars ho ha) rf_strip (dr_var 0) (dm_r (DE.r de_str) dm_nil))) (DE.r de_str) (nomark _))))) spec

theorem sc_Chance_takes : FnScope ["self", "weight"] ["self", "weight"] (defScope s_Chance_takes) := ⟨rfl, rfl, rfl, by decide +kernel, rfl, by decide +kernel, by decide +kernel⟩
theorem ok_Chance_takes {B : Bx} {base : Heap} {j : Nat} {f : Addr} {fd : FuncData} {sp : SpM} (F : FunD B.K "takes" "Chance.takes" (defArgs s_Chance_takes) (defBody s_Chance_takes) (defScope s_Chance_takes) [] [] f fd)
    (spec : ∀ ds M Q E, sp ds M Q E → t_Chance_takes (endsOf Q E) (startE [false, false] 2 ds) M) : FnB B base (j + 1) f fd ["self", "weight"] [false, false] sp :=
  fnok_of F sc_Chance_takes (fun cdv A outer s H E hr tk hp =>
 (dss_one (ds_ret (de_cmp op_gt rf_gt (DE.r (de_ix hr (dr_var 1) (DE.r de_int))) (DE.r de_int) (nomark _))))) spec

theorem sc_Scale_takes : FnScope ["self", "weight"] ["self", "weight"] (defScope s_Scale_takes) := ⟨rfl, rfl, rfl, by decide +kernel, rfl, by decide +kernel, by decide +kernel⟩
theorem ok_Scale_takes {B : Bx} {base : Heap} {j : Nat} {f : Addr} {fd : FuncData} {sp : SpM} (F : FunD B.K "takes" "Scale.takes" (defArgs s_Scale_takes) (defBody s_Scale_takes) (defScope s_Scale_takes) [] [] f fd)
    (spec : ∀ ds M Q E, sp ds M Q E → t_Scale_takes (endsOf Q E) (startE [false, false] 2 ds) M) : FnB B base (j + 1) f fd ["self", "weight"] [false, false] sp :=
  fnok_of F sc_Scale_takes (fun cdv A outer s H E hr tk hp =>
 (dss_one (ds_ret de_bl))) spec

theorem sc_look_at_weights : FnScope ["scale", "rules", "titles", "rule"] ["scale", "rules"] (defScope s_look_at_weights) := ⟨rfl, rfl, rfl, by decide +kernel, rfl, by decide +kernel, by decide +kernel⟩
theorem ok_look_at_weights {B : Bx} {base : Heap} {j : Nat} {f : Addr} {fd : FuncData} {sp : SpM} {p_Chance_takes : SpM} {p_Scale_takes : SpM} (fl_weight : FldF B "weight" ["Rule"]) (xc_NoWeight : XcF B "NoWeight") (fl_title : FldF B "title" ["Rule"]) (xc_Twice : XcF B "Twice") (h_Chance_takes : MtF B base j "Chance" "takes" [false, false] p_Chance_takes) (h_Cost_takes : MtF B base j "Cost" "takes" [false, false] p_Scale_takes) (F : FunD B.K "look_at_weights" "look_at_weights" (defArgs s_look_at_weights) (defBody s_look_at_weights) (defScope s_look_at_weights) [] [] f fd)
    (spec : ∀ ds M Q E, sp ds M Q E → t_look_at_weights p_Chance_takes p_Scale_takes (endsW Q E) (startE [false, true] 4 ds) M) : FnB B base (j + 1) f fd ["scale", "rules"] [false, true] sp :=
  fnok_ofW F sc_look_at_weights (fun cdv A outer s H E hr tk hp =>
 (dss_cons (ds_set (i := 2) sc_look_at_weights.nd (de_dnew false))
 (dss_cons (ds_for hp rfl (di_bor 1) (dg_name (i := 3) sc_look_at_weights.nd) (dss_cons (ds_if (dt_not (dt_tru (DE.r (de_meth (mt_cons h_Cost_takes (mt_cons h_Chance_takes mt_nil)) hr tk (Nat.le_refl _) (de_var 0) (dm_e (de_fld fl_weight (dr_var 3)) dm_nil))))) (dss_one (ds_raise tk xc_NoWeight)) dss_nil)
 (dss_cons (ds_if (dt_cmp (op_inA hr) rf_in (DE.r (de_fld fl_title (dr_var 3))) (dr_var 2) (by rfl)) (dss_one (ds_raise tk xc_Twice)) dss_nil)
 (dss_one (ds_dput hr (de_var 2) (de_fld fl_title (dr_var 3)) de_bl)))))
 (dss_one (ds_frzM 2 (ds_ret (de_var 2))))))) spec

theorem sc_scale_of : FnScope ["word"] ["word"] (defScope s_scale_of) := ⟨rfl, rfl, rfl, by decide +kernel, rfl, by decide +kernel, by decide +kernel⟩
theorem ok_scale_of {B : Bx} {base : Heap} {j : Nat} {f : Addr} {fd : FuncData} {sp : SpM} (m0_Cost : Mk0F B "Cost") (m0_Chance : Mk0F B "Chance") (xc_NoScale : XcF B "NoScale") (F : FunD B.K "scale_of" "scale_of" (defArgs s_scale_of) (defBody s_scale_of) (defScope s_scale_of) [] [] f fd)
    (spec : ∀ ds M Q E, sp ds M Q E → t_scale_of (endsOf Q E) (startE [false] 1 ds) M) : FnB B base (j + 1) f fd ["word"] [false] sp :=
  fnok_of F sc_scale_of (fun cdv A outer s H E hr tk hp =>
 (dss_cons (ds_if (dt_cmp (op_eqA hr) rf_eq (dr_var 0) (DE.r de_str) (nomark _)) (dss_one (ds_ret (de_make0 m0_Cost))) dss_nil)
 (dss_cons (ds_if (dt_cmp (op_eqA hr) rf_eq (dr_var 0) (DE.r de_str) (nomark _)) (dss_one (ds_ret (de_make0 m0_Chance))) dss_nil)
 (dss_one (ds_raise tk xc_NoScale))))) spec

theorem sc_look_at_kinds : FnScope ["start", "rules", "heads", "rule", "asked", "kind", "part"] ["start", "rules"] (defScope s_look_at_kinds) := ⟨rfl, rfl, rfl, by decide +kernel, rfl, by decide +kernel, by decide +kernel⟩
theorem ok_look_at_kinds {B : Bx} {base : Heap} {j : Nat} {f : Addr} {fd : FuncData} {sp : SpM} {p_is_kind : SpM} (fl_head : FldF B "head" ["Rule"]) (fl_parts : FldF B "parts" ["Rule"]) (xc_NoKind : XcF B "NoKind") (h_is_kind : Fn B base j "is_kind" [false] p_is_kind) (F : FunD B.K "look_at_kinds" "look_at_kinds" (defArgs s_look_at_kinds) (defBody s_look_at_kinds) (defScope s_look_at_kinds) [] [] f fd)
    (spec : ∀ ds M Q E, sp ds M Q E → t_look_at_kinds p_is_kind (endsW Q E) (startE [false, true] 7 ds) M) : FnB B base (j + 1) f fd ["start", "rules"] [false, true] sp :=
  fnok_ofW F sc_look_at_kinds (fun cdv A outer s H E hr tk hp =>
 (dss_cons (ds_set (i := 2) sc_look_at_kinds.nd (de_dnew false))
 (dss_cons (ds_for hp rfl (di_bor 1) (dg_name (i := 3) sc_look_at_kinds.nd) (dss_one (ds_dput hr (de_var 2) (de_fld fl_head (dr_var 3)) de_bl)))
 (dss_cons (ds_own (i := 4) sc_look_at_kinds.nd (dn_lst (dm_e (de_var 0) dm_nil)))
 (dss_cons (ds_for hp rfl (di_bor 1) (dg_name (i := 3) sc_look_at_kinds.nd) (dss_one (ds_augL 4 sc_look_at_kinds.nd (DE.r (DN.fz (dn_lc (own := [("part", 6)]) sc_look_at_kinds.nd (di_any (de_fld fl_parts (dr_var 3))) (blkOk_by (own := [("part", 6)]) (N := ["start", "rules", "heads", "rule", "asked", "kind", "part"]) (sc := defScope s_look_at_kinds) (by decide +kernel)) (fun _ => (dgk_name (i := 6) sc_look_at_kinds.nd)) (fun _ => (dts_one (dt_tru (DE.r (de_call h_is_kind hr takes0 (Nat.le_refl _) (dm_e (de_var 6) dm_nil)))))) (fun _ => (de_var 6))))))))
 (dss_one (ds_frz 4 (ds_for hp rfl (di_any (de_var 4)) (dg_name (i := 5) sc_look_at_kinds.nd) (dss_one (ds_if (dt_cmp (op_notInA hr) rf_notIn (dr_var 5) (dr_var 2) (by rfl)) (dss_one (ds_raise tk xc_NoKind)) dss_nil)))))))))) spec

theorem sc_single_kinds : FnScope ["rules", "steps", "rule", "row"] ["rules"] (defScope s_single_kinds) := ⟨rfl, rfl, rfl, by decide +kernel, rfl, by decide +kernel, by decide +kernel⟩
theorem ok_single_kinds {B : Bx} {base : Heap} {j : Nat} {f : Addr} {fd : FuncData} {sp : SpM} {p_is_kind : SpM} (fl_parts : FldF B "parts" ["Rule"]) (n_len : B.mg "len" = none) (fl_head : FldF B "head" ["Rule"]) (h_is_kind : Fn B base j "is_kind" [false] p_is_kind) (F : FunD B.K "single_kinds" "single_kinds" (defArgs s_single_kinds) (defBody s_single_kinds) (defScope s_single_kinds) [] [] f fd)
    (spec : ∀ ds M Q E, sp ds M Q E → t_single_kinds p_is_kind (endsW Q E) (startE [true] 4 ds) M) : FnB B base (j + 1) f fd ["rules"] [true] sp :=
  fnok_ofW F sc_single_kinds (fun cdv A outer s H E hr tk hp =>
 (dss_cons (ds_set (i := 1) sc_single_kinds.nd (de_dnew false))
 (dss_cons (ds_for hp rfl (di_bor 0) (dg_name (i := 2) sc_single_kinds.nd) (dss_one (ds_if (DW.t (dw_and (dt_cmp (op_eqA hr) rf_eq (DE.r (de_callB call_lenA rf_len n_len (dm_r (DE.r (de_fld fl_parts (dr_var 2))) dm_nil))) (DE.r de_int) (nomark _)) (dw_and1 (dt_tru (DE.r (de_call h_is_kind hr tk (Nat.le_refl _) (dm_e (de_ix hr (DE.r (de_fld fl_parts (dr_var 2))) (DE.r de_int)) dm_nil))))))) (dss_cons (ds_set (i := 3) sc_single_kinds.nd (de_dsetd hr (dr_var 1) (de_fld fl_head (dr_var 2)) (DN.sto (dn_lst dm_nil))))
 (dss_one (ds_lmut (fun ha => pe_bm PySem.F.plainAttrs_list PySem.F.slot_list_append PySem.F.type_list_append mt_append (pv 3) ha) rf_append (dm_e (de_ix hr (DE.r (de_fld fl_parts (dr_var 2))) (DE.r de_int)) dm_nil)))) dss_nil)))
 (dss_one (ds_frzD 1 (ds_ret (de_var 1))))))) spec

theorem sc_comes_back : FnScope ["steps", "kind", "met", "waiting", "here"] ["steps", "kind"] (defScope s_comes_back) := ⟨rfl, rfl, rfl, by decide +kernel, rfl, by decide +kernel, by decide +kernel⟩
theorem ok_comes_back {B : Bx} {base : Heap} {j : Nat} {f : Addr} {fd : FuncData} {sp : SpM} (n_list : B.mg "list" = none) (n_len : B.mg "len" = none) (F : FunD B.K "comes_back" "comes_back" (defArgs s_comes_back) (defBody s_comes_back) (defScope s_comes_back) [] [] f fd)
    (spec : ∀ ds M Q E, sp ds M Q E → t_comes_back (endsW Q E) (startE [false, false] 5 ds) M) : FnB B base (j + 1) f fd ["steps", "kind"] [false, false] sp :=
  fnok_ofW F sc_comes_back (fun cdv A outer s H E hr tk hp =>
 (dss_cons (ds_set (i := 2) sc_comes_back.nd (de_dnew false))
 (dss_cons (ds_own (i := 3) sc_comes_back.nd (dn_list n_list (dm_r (DE.r (de_dget hr (dr_var 0) (de_var 1) (DN.fz (dn_lst dm_nil)))) dm_nil)))
 (dss_cons (ds_while hp (dt_cmp op_gt rf_gt (DE.r (de_callB call_lenA rf_len n_len (dm_r (dr_var 3) dm_nil))) (DE.r de_int) (nomark _)) (dss_cons (ds_lset0 (j := 4) sc_comes_back.nd (pe_bm0 PySem.F.plainAttrs_list PySem.F.slot_list_pop PySem.F.type_list_pop mt_pop (pv 3)) rf_pop)
 (dss_cons (ds_if (dt_cmp (op_eqA hr) rf_eq (dr_var 4) (dr_var 1) (nomark _)) (dss_one (ds_ret de_bl)) dss_nil)
 (dss_one (ds_if (dt_cmp (op_notInA hr) rf_notIn (dr_var 4) (dr_var 2) (by rfl)) (dss_cons (ds_dput hr (de_var 2) (de_var 4) de_bl)
 (dss_one (ds_augL 3 sc_comes_back.nd (DE.r (de_dget hr (dr_var 0) (de_var 4) (DN.fz (dn_lst dm_nil))))))) dss_nil)))))
 (dss_one (ds_ret de_bl)))))) spec

theorem sc_Grammar_init : FnScope ["self", "scale", "start", "rules", "titles", "rule", "title", "steps", "kind"] ["self", "scale", "start", "rules"] (defScope s_Grammar_init) := ⟨rfl, rfl, rfl, by decide +kernel, rfl, by decide +kernel, by decide +kernel⟩
theorem ok_Grammar_init {B : Bx} {base : Heap} {j : Nat} {f : Addr} {fd : FuncData} {sp : SpM} {p_look_at_weights : SpM} {p_scale_of : SpM} {p_look_at_kinds : SpM} {p_single_kinds : SpM} {p_comes_back : SpM} (fl_under : FldF B "under" ["Rule"]) (xc_NoTitle : XcF B "NoTitle") (xc_Ring : XcF B "Ring") (fl_scale : FldF B "scale" ["Grammar"]) (fl_start : FldF B "start" ["Grammar"]) (fl_rules : FldF B "rules" ["Grammar"]) (n_tuple : B.mg "tuple" = none) (h_look_at_weights : Fn B base j "look_at_weights" [false, true] p_look_at_weights) (h_scale_of : Fn B base j "scale_of" [false] p_scale_of) (h_look_at_kinds : Fn B base j "look_at_kinds" [false, true] p_look_at_kinds) (h_single_kinds : Fn B base j "single_kinds" [true] p_single_kinds) (h_comes_back : Fn B base j "comes_back" [false, false] p_comes_back) (F : FunD B.K "__init__" "Grammar.__init__" (defArgs s_Grammar_init) (defBody s_Grammar_init) (defScope s_Grammar_init) [] [] f fd)
    (spec : ∀ ds M Q E, sp ds M Q E → t_Grammar_init p_look_at_weights p_scale_of p_look_at_kinds p_single_kinds p_comes_back (endsOf Q E) (startE [false, false, false, true] 9 ds) M) : FnB B base (j + 1) f fd ["self", "scale", "start", "rules"] [false, false, false, true] sp :=
  fnok_of F sc_Grammar_init (fun cdv A outer s H E hr tk hp =>
 (dss_cons (ds_set (i := 4) sc_Grammar_init.nd (de_call h_look_at_weights hr tk (Nat.le_refl _) (dm_e (de_call h_scale_of hr tk (Nat.le_refl _) (dm_e (de_var 1) dm_nil)) (dm_r (dr_var 3) dm_nil))))
 (dss_cons (ds_for hp rfl (di_bor 3) (dg_name (i := 5) sc_Grammar_init.nd) (dss_one (ds_for hp rfl (di_any (de_orG (de_fld fl_under (dr_var 5)) (de_one (de_tup dm_nil)))) (dg_name (i := 6) sc_Grammar_init.nd) (dss_one (ds_if (dt_cmp (op_notInA hr) rf_notIn (dr_var 6) (dr_var 4) (by rfl)) (dss_one (ds_raise tk xc_NoTitle)) dss_nil)))))
 (dss_cons (ds_expr (de_call h_look_at_kinds hr tk (Nat.le_refl _) (dm_e (de_var 2) (dm_r (dr_var 3) dm_nil))))
 (dss_cons (ds_set (i := 7) sc_Grammar_init.nd (de_call h_single_kinds hr tk (Nat.le_refl _) (dm_r (dr_var 3) dm_nil)))
 (dss_cons (ds_for hp rfl (di_any (de_var 7)) (dg_name (i := 8) sc_Grammar_init.nd) (dss_one (ds_if (dt_tru (DE.r (de_call h_comes_back hr tk (Nat.le_refl _) (dm_e (de_var 7) (dm_e (de_var 8) dm_nil))))) (dss_one (ds_raise tk xc_Ring)) dss_nil)))
 (dss_cons (ds_setF fl_scale (pv 0) (de_var 1))
 (dss_cons (ds_setF fl_start (pv 0) (de_var 2))
 (dss_one (ds_setF fl_rules (pv 0) (de_callTy call_tuple_of rf_tuple1 n_tuple (dm_r (dr_var 3) dm_nil)))))))))))) spec

theorem sc_read_grammar : FnScope ["text", "rows", "line"] ["text"] (defScope s_read_grammar) := ⟨rfl, rfl, rfl, by decide +kernel, rfl, by decide +kernel, by decide +kernel⟩
theorem ok_read_grammar {B : Bx} {base : Heap} {j : Nat} {f : Addr} {fd : FuncData} {sp : SpM} {p_grammar_rows : SpM} {p_left_out : SpM} {p_Grammar_init : SpM} {j0 : Nat} (h_grammar_rows : Fn B base j "grammar_rows" [false] p_grammar_rows) (h_left_out : Fn B base j "left_out" [false] p_left_out) (h_Grammar_0 : MkF B base j0 "Grammar" (false :: ([false, false, true] ++ [])) [] p_Grammar_init) (hj0 : j0 + 1 ≤ j) (F : FunD B.K "read_grammar" "read_grammar" (defArgs s_read_grammar) (defBody s_read_grammar) (defScope s_read_grammar) [] [] f fd)
    (spec : ∀ ds M Q E, sp ds M Q E → t_read_grammar p_grammar_rows p_left_out p_Grammar_init (endsOf Q E) (startE [false] 3 ds) M) : FnB B base (j + 1) f fd ["text"] [false] sp :=
  fnok_of F sc_read_grammar (fun cdv A outer s H E hr tk hp =>
 (dss_cons (ds_set (i := 1) sc_read_grammar.nd (de_call h_grammar_rows hr tk (Nat.le_refl _) (dm_e (DN.fz (dn_lc (own := [("line", 2)]) sc_read_grammar.nd (di_any (de_sm (fun ho ha => pe_bm PySem.F.plainAttrs_str PySem.F.slot_str_split PySem.F.type_str_split mt_split ho ha) rf_split (dr_var 0) (dm_r (DE.r de_str) dm_nil))) (blkOk_by (own := [("line", 2)]) (N := ["text", "rows", "line"]) (sc := defScope s_read_grammar) (by decide +kernel)) (fun _ => (dgk_name (i := 2) sc_read_grammar.nd)) (fun _ => (dts_one (dt_not (dt_tru (DE.r (de_call h_left_out hr takes0 (Nat.le_refl _) (dm_e (de_var 2) dm_nil))))))) (fun _ => (de_var 2)))) dm_nil)))
 (dss_one (ds_ret (de_make (ms := [false, false, true]) (dv := []) h_Grammar_0 hr tk hj0 (dm_e (de_ix hr (dr_var 1) (DE.r de_int)) (dm_e (de_ix hr (dr_var 1) (DE.r de_int)) (dm_r (DE.r (de_ix hr (dr_var 1) (DE.r de_int))) dm_nil)))))))) spec

theorem sc_l_rule_is : FnScope ["_law_rule", "_law_row"] ["_law_rule", "_law_row"] (defScope s_l_rule_is) := ⟨rfl, rfl, rfl, by decide +kernel, rfl, by decide +kernel, by decide +kernel⟩
theorem ok_l_rule_is {B : Bx} {base : Heap} {j : Nat} {f : Addr} {fd : FuncData} {sp : SpM} (fl_title : FldF B "title" ["Rule"]) (fl_head : FldF B "head" ["Rule"]) (fl_weight : FldF B "weight" ["Rule"]) (fl_tag : FldF B "tag" ["Rule"]) (fl_parts : FldF B "parts" ["Rule"]) (n_isinstance : B.mg "isinstance" = none) (n_tuple : B.mg "tuple" = none) (fl_under : FldF B "under" ["Rule"]) (F : FunD B.K "_law_rule_is" "_law_rule_is" (defArgs s_l_rule_is) (defBody s_l_rule_is) (defScope s_l_rule_is) [] [] f fd)
    (spec : ∀ ds M Q E, sp ds M Q E → t_l_rule_is (endsOf Q E) (startE [false, false] 2 ds) M) : FnB B base (j + 1) f fd ["_law_rule", "_law_row"] [false, false] sp :=
  fnok_of F sc_l_rule_is (fun cdv A outer s H E hr tk hp =>
 (dss_cons (ds_if (DW.t (dw_or (dt_cmp (op_neA hr) rf_ne (DE.r (de_fld fl_title (dr_var 0))) (DE.r (de_ix hr (dr_var 1) (DE.r de_int))) (nomark _)) (dw_or (dt_cmp (op_neA hr) rf_ne (DE.r (de_fld fl_head (dr_var 0))) (DE.r (de_ix hr (dr_var 1) (DE.r de_int))) (nomark _)) (dw_or (dt_cmp (op_neA hr) rf_ne (DE.r (de_fld fl_weight (dr_var 0))) (DE.r (de_ix hr (dr_var 1) (DE.r de_int))) (nomark _)) (dw_or1 (dt_cmp (op_neA hr) rf_ne (DE.r (de_fld fl_tag (dr_var 0))) (DE.r (de_ix hr (dr_var 1) (DE.r de_int))) (nomark _))))))) (dss_one (ds_ret de_bl)) dss_nil)
 (dss_cons (ds_if (DW.t (dw_or (dt_not (dt_tru (DE.r (de_callB call_isi (rf_isi isi_tuple) n_isinstance (dm_r (DE.r (de_fld fl_parts (dr_var 0))) (dm_e (de_gty n_tuple) dm_nil)))))) (dw_or1 (dt_cmp (op_neA hr) rf_ne (DE.r (de_fld fl_parts (dr_var 0))) (DE.r (de_callTy call_tuple_of rf_tuple1 n_tuple (dm_r (DE.r (de_ix hr (dr_var 1) (DE.r de_int))) dm_nil))) (nomark _))))) (dss_one (ds_ret de_bl)) dss_nil)
 (dss_cons (ds_if (dt_cmp op_isN rf_isN (DE.r (de_ix hr (dr_var 1) (DE.r de_int))) (DE.r de_non) (nomark _)) (dss_one (ds_ret (de_cmp op_isN rf_isN (DE.r (de_fld fl_under (dr_var 0))) (DE.r de_non) (nomark _)))) dss_nil)
 (dss_one (ds_ret (de_and (de_callB call_isi (rf_isi isi_tuple) n_isinstance (dm_r (DE.r (de_fld fl_under (dr_var 0))) (dm_e (de_gty n_tuple) dm_nil))) (de_one (de_cmp (op_eqA hr) rf_eq (DE.r (de_fld fl_under (dr_var 0))) (DE.r (de_callTy call_tuple_of rf_tuple1 n_tuple (dm_r (DE.r (de_ix hr (dr_var 1) (DE.r de_int))) dm_nil))) (nomark _)))))))))) spec

theorem sc_l_kept : FnScope ["_law_made", "_law_scale", "_law_start", "_law_rows", "_law_a", "_law_b"] ["_law_made", "_law_scale", "_law_start", "_law_rows"] (defScope s_l_kept) := ⟨rfl, rfl, rfl, by decide +kernel, rfl, by decide +kernel, by decide +kernel⟩
theorem ok_l_kept {B : Bx} {base : Heap} {j : Nat} {f : Addr} {fd : FuncData} {sp : SpM} {p_l_rule_is : SpM} (fl_scale : FldF B "scale" ["Grammar"]) (fl_start : FldF B "start" ["Grammar"]) (fl_rules : FldF B "rules" ["Grammar"]) (n_isinstance : B.mg "isinstance" = none) (n_tuple : B.mg "tuple" = none) (n_len : B.mg "len" = none) (n_zip : B.mg "zip" = none) (n_all : B.mg "all" = none) (h_l_rule_is : Fn B base j "_law_rule_is" [false, false] p_l_rule_is) (F : FunD B.K "_law_kept" "_law_kept" (defArgs s_l_kept) (defBody s_l_kept) (defScope s_l_kept) [] [] f fd)
    (spec : ∀ ds M Q E, sp ds M Q E → t_l_kept p_l_rule_is (endsOf Q E) (startE [false, false, false, false] 6 ds) M) : FnB B base (j + 1) f fd ["_law_made", "_law_scale", "_law_start", "_law_rows"] [false, false, false, false] sp :=
  fnok_of F sc_l_kept (fun cdv A outer s H E hr tk hp =>
 (dss_cons (ds_if (DW.t (dw_or (dt_cmp (op_neA hr) rf_ne (DE.r (de_fld fl_scale (dr_var 0))) (dr_var 1) (nomark _)) (dw_or (dt_cmp (op_neA hr) rf_ne (DE.r (de_fld fl_start (dr_var 0))) (dr_var 2) (nomark _)) (dw_or1 (dt_not (dt_tru (DE.r (de_callB call_isi (rf_isi isi_tuple) n_isinstance (dm_r (DE.r (de_fld fl_rules (dr_var 0))) (dm_e (de_gty n_tuple) dm_nil)))))))))) (dss_one (ds_ret de_bl)) dss_nil)
 (dss_one (ds_ret (de_and (de_cmp (op_eqA hr) rf_eq (DE.r (de_callB call_lenA rf_len n_len (dm_r (DE.r (de_fld fl_rules (dr_var 0))) dm_nil))) (DE.r (de_callB call_lenA rf_len n_len (dm_r (dr_var 3) dm_nil))) (nomark _)) (de_one (de_callB (cr_all rfl) rf_all n_all (dm_r (DE.r (DN.fz (dn_lc (own := [("_law_a", 4), ("_law_b", 5)]) sc_l_kept.nd (di_zipM n_zip (dm_e (de_fld fl_rules (dr_var 0)) (dm_e (de_var 3) dm_nil))) (blkOk_by (own := [("_law_a", 4), ("_law_b", 5)]) (N := ["_law_made", "_law_scale", "_law_start", "_law_rows", "_law_a", "_law_b"]) (sc := defScope s_l_kept) (by decide +kernel)) (fun _ => (dgk_tup rfl (dgsk_cons (dgk_name (i := 4) sc_l_kept.nd) (dgsk_cons (dgk_name (i := 5) sc_l_kept.nd) dgsk_nil)))) (fun _ => dts_nil) (fun _ => (de_call h_l_rule_is hr takes0 (Nat.le_refl _) (dm_e (de_var 4) (dm_e (de_var 5) dm_nil))))))) dm_nil)))))))) spec

theorem sc_law_k12 : FnScope ["_law_script", "_law_number", "_law_scale", "_law_found", "_law_start", "_law_rows", "_law_rules", "_law_lines", "_law_more", "_law_k", "_law_row", "_law_told", "_law_first", "_law_other"] ["_law_script"] (defScope s_law_k12) := ⟨rfl, rfl, rfl, by decide +kernel, rfl, by decide +kernel, by decide +kernel⟩
theorem ok_law_k12 {B : Bx} {base : Heap} {j : Nat} {f : Addr} {fd : FuncData} {sp : SpM} {p_l_mix : SpM} {p_l_at : SpM} {p_l_wild_rows_k11 : SpM} {p_l_own_words : SpM} {p_l_line : SpM} {p_grammar_text : SpM} {p_read_grammar : SpM} {p_l_kept : SpM} {p_Rule_init : SpM} {p_Grammar_init : SpM} {j0 : Nat} (n_enumerate : B.mg "enumerate" = none) (n_isinstance : B.mg "isinstance" = none) (n_str : B.mg "str" = none) (h_l_mix : Fn B base j "_law_mix" [false, false] p_l_mix) (h_l_at : Fn B base j "_law_at" [false, false] p_l_at) (h_l_wild_rows_k11 : Fn B base j "_law_wild_rows" [false, false, false] p_l_wild_rows_k11) (h_l_own_words : Fn B base j "_law_own_words" [false, false] p_l_own_words) (h_l_line : Fn B base j "_law_line" [false, false] p_l_line) (h_grammar_text : Fn B base j "grammar_text" [false] p_grammar_text) (h_read_grammar : Fn B base j "read_grammar" [false] p_read_grammar) (h_l_kept : Fn B base j "_law_kept" [false, false, false, false] p_l_kept) (h_Rule_0 : MkF B base j0 "Rule" (false :: ([false, false, true, false, false, true] ++ [])) [] p_Rule_init) (h_Grammar_0 : MkF B base j0 "Grammar" (false :: ([false, false, true] ++ [])) [] p_Grammar_init) (hj0 : j0 + 1 ≤ j) (F : FunD B.K "law" "law" (defArgs s_law_k12) (defBody s_law_k12) (defScope s_law_k12) [] [] f fd)
    (spec : ∀ ds M Q E, sp ds M Q E → t_law_k12 p_l_mix p_l_at p_l_wild_rows_k11 p_l_own_words p_l_line p_grammar_text p_read_grammar p_l_kept p_Rule_init p_Grammar_init (endsOf Q E) (startE [false] 14 ds) M) : FnB B base (j + 1) f fd ["_law_script"] [false] sp :=
  fnok_of F sc_law_k12 (fun cdv A outer s H E hr tk hp =>
 (dss_cons (ds_set (i := 1) sc_law_k12.nd (de_call h_l_mix hr tk (Nat.le_refl _) (dm_e (de_call h_l_at hr tk (Nat.le_refl _) (dm_e (de_var 0) (dm_e de_int dm_nil))) (dm_e de_int dm_nil))))
 (dss_cut (ds_set (i := 2) sc_law_k12.nd (de_ix hr (DE.r (de_tup (dm_e de_str (dm_e de_str dm_nil)))) (DE.r (de_mod (dr_var 1) (DE.r de_int)))))
 (dss_cons (ds_set (i := 3) sc_law_k12.nd (de_call h_l_wild_rows_k11 hr tk (Nat.le_refl _) (dm_e (de_var 0) (dm_e de_int (dm_e (de_var 2) dm_nil)))))
 (dss_cons (ds_set (i := 4) sc_law_k12.nd (de_ix hr (DE.r (de_ix hr (dr_var 3) (DE.r de_int))) (DE.r de_int)))
 (dss_cons (ds_set (i := 5) sc_law_k12.nd (de_call h_l_own_words hr tk (Nat.le_refl _) (dm_e (de_ix hr (dr_var 3) (DE.r de_int)) (dm_e (de_fdiv (dr_var 1) (DE.r de_int)) dm_nil))))
 (dss_cut (ds_if (dt_cmp (op_eqA hr) rf_eq (dr_var 5) (DE.r (DN.fz (dn_lst dm_nil))) (nomark _)) (dss_one (ds_set (i := 5) sc_law_k12.nd (DN.fz (dn_lst (dm_e (de_tup (dm_e de_str (dm_e (de_var 4) (dm_e (DN.fz (dn_lst (dm_e de_str (dm_e de_str dm_nil)))) (dm_e (de_tup (dm_e de_int (dm_e de_int dm_nil))) (dm_e de_str (dm_e (DN.fz (dn_lst (dm_e de_str (dm_e de_str dm_nil)))) dm_nil))))))) dm_nil))))) dss_nil)
 (dss_cons (ds_setLc (j := 6) (own := [("_law_row", 10)]) sc_law_k12.nd (di_any (de_var 5)) (blkOk_by (own := [("_law_row", 10)]) (N := ["_law_script", "_law_number", "_law_scale", "_law_found", "_law_start", "_law_rows", "_law_rules", "_law_lines", "_law_more", "_law_k", "_law_row", "_law_told", "_law_first", "_law_other"]) (sc := defScope s_law_k12) (by decide +kernel)) (fun _ => (dgk_name (i := 10) sc_law_k12.nd)) (fun _ => dts_nil) (fun _ => (de_make (ms := [false, false, true, false, false, true]) (dv := []) h_Rule_0 hr takes0 hj0 (dm_e (de_ix hr (dr_var 10) (DE.r de_int)) (dm_e (de_ix hr (dr_var 10) (DE.r de_int)) (dm_r (DE.r (de_ix hr (dr_var 10) (DE.r de_int))) (dm_e (de_ix hr (dr_var 10) (DE.r de_int)) (dm_e (de_ix hr (dr_var 10) (DE.r de_int)) (dm_r (DE.r (de_ix hr (dr_var 10) (DE.r de_int))) dm_nil)))))))))
 (dss_cons (ds_own (i := 7) sc_law_k12.nd (dn_lst (dm_e (de_add (DE.r de_str) (dr_var 2)) (dm_e (de_add (DE.r de_str) (dr_var 4)) dm_nil))))
 (dss_cons (ds_own (i := 8) sc_law_k12.nd (dn_lst (dm_e de_str (dm_e (de_add (DE.r de_str) (dr_var 2)) (dm_e (de_add (DE.r de_str) (dr_var 4)) dm_nil)))))
 (dss_cons (ds_for hp rfl (di_enum n_enumerate (dm_e (de_var 5) dm_nil)) (dg_tup rfl (dgs_cons (dg_name (i := 9) sc_law_k12.nd) (dgs_cons (dg_name (i := 10) sc_law_k12.nd) dgs_nil))) (dss_cons (ds_lmut (fun ha => pe_bm PySem.F.plainAttrs_list PySem.F.slot_list_append PySem.F.type_list_append mt_append (pv 7) ha) rf_append (dm_e (de_call h_l_line hr tk (Nat.le_refl _) (dm_e (de_var 10) (dm_e de_int dm_nil))) dm_nil))
 (dss_cons (ds_lmut (fun ha => pe_bm PySem.F.plainAttrs_list PySem.F.slot_list_append PySem.F.type_list_append mt_append (pv 8) ha) rf_append (dm_e (de_call h_l_line hr tk (Nat.le_refl _) (dm_e (de_var 10) (dm_e (de_add (DE.r de_int) (DE.r (de_mod (DE.r (de_add (DE.r (de_fdiv (dr_var 1) (DE.r de_int))) (DE.r (de_mulA (dr_var 9) (dr_var 9))))) (DE.r de_int)))) dm_nil))) dm_nil))
 (dss_one (ds_augL 8 sc_law_k12.nd (DE.r (de_sl (DE.r (DN.fz (dn_lst (dm_e de_str (dm_e de_str (dm_e de_str dm_nil)))))) do_none (do_some (DE.r (de_mod (DE.r (de_add (DE.r (de_fdiv (dr_var 1) (DE.r de_int))) (dr_var 9))) (DE.r de_int)))))))))))
 (dss_cons (ds_set (i := 11) sc_law_k12.nd (de_call h_grammar_text hr tk (Nat.le_refl _) (dm_e (de_make (ms := [false, false, true]) (dv := []) h_Grammar_0 hr tk hj0 (dm_e (de_var 2) (dm_e (de_var 4) (dm_r (dr_var 6) dm_nil)))) dm_nil)))
 (dss_cons (ds_if (DW.t (dw_or (dt_not (dt_tru (DE.r (de_callB call_isi (rf_isi isi_str) n_isinstance (dm_r (dr_var 11) (dm_e (de_gty n_str) dm_nil)))))) (dw_or1 (dt_cmp (op_neA hr) rf_ne (dr_var 11) (DE.r (de_sm (fun ho ha => pe_bm PySem.F.plainAttrs_str PySem.F.slot_str_join PySem.F.type_str_join mt_join ho ha) rf_join (DE.r de_str) (dm_r (dr_var 7) dm_nil))) (nomark _))))) (dss_one (ds_ret de_bl)) dss_nil)
 (dss_cons (ds_set (i := 12) sc_law_k12.nd (de_call h_read_grammar hr tk (Nat.le_refl _) (dm_e (de_var 11) dm_nil)))
 (dss_cons (ds_set (i := 13) sc_law_k12.nd (de_call h_read_grammar hr tk (Nat.le_refl _) (dm_e (de_sm (fun ho ha => pe_bm PySem.F.plainAttrs_str PySem.F.slot_str_join PySem.F.type_str_join mt_join ho ha) rf_join (DE.r de_str) (dm_r (dr_var 8) dm_nil)) dm_nil)))
 (dss_cons (ds_if (DW.t (dw_or (dt_not (dt_tru (DE.r (de_call h_l_kept hr tk (Nat.le_refl _) (dm_e (de_var 13) (dm_e (de_var 2) (dm_e (de_var 4) (dm_e (de_var 5) dm_nil)))))))) (dw_or1 (dt_cmp (op_neA hr) rf_ne (DE.r (de_call h_grammar_text hr tk (Nat.le_refl _) (dm_e (de_var 13) dm_nil))) (dr_var 11) (nomark _))))) (dss_one (ds_ret de_bl)) dss_nil)
 (dss_one (ds_ret (de_and (de_call h_l_kept hr tk (Nat.le_refl _) (dm_e (de_var 12) (dm_e (de_var 2) (dm_e (de_var 4) (dm_e (de_var 5) dm_nil))))) (de_one (de_cmp (op_eqA hr) rf_eq (DE.r (de_call h_grammar_text hr tk (Nat.le_refl _) (dm_e (de_var 12) dm_nil))) (dr_var 11) (nomark _)))))))))))))))))))))) spec

end K12
end Z

namespace Z
namespace K12
open PySem PySem.Spec PyProof.Rows L2
theorem facts {P : Program} {w : World} {K : PySem.W.Frag} {h : Heap} {mg : Str → Option Value} {f : Addr} (KX : K.In h) (G : h.Ns mainGlobals mg) (hfa : mg ("law" : Str) = some (.ref f)) (c : SaysZ fa fn ez K) :
    ∃ fd : FuncData, (∀ (s : Shared) (v : Value), BindsTo s fd ⟨[v], []⟩ [("_law_script", v)]) ∧ ∀ base : Heap, K.In base → base.Ns mainGlobals mg → FnOk P w K mg base (L2.CX P w) 9 f fd ["_law_script"] (liftSp ⟨P, w, K, mg⟩ [false] spLaw) := by
  obtain ⟨fd_law, F_law⟩ := c.d.def_ 37 (d := d_law_k12) rfl
  cases (hfa.symm.trans (He.glo_ok KX G (c.d.fact 33 (f := .glo "law") rfl)))
  have b := FunD.bindsA (ps := ["_law_script"]) F_law fun _ _ _ _ _ _ us hl => match us, hl with | [_], _ => rfl
  refine ⟨fd_law, fun s v => b s [v] rfl, fun base _ _ => ?_⟩
  obtain ⟨fd_l_mix, F_l_mix⟩ := c.d.def_ 0 (d := d_l_mix) rfl
  have b_l_mix := F_l_mix.bindsN (ps := ["_law_cell", "_law_k"]) fun _ _ _ _ _ _ us hl => match us, hl with | [_, _], _ => rfl
  have h_l_mix : Fn ⟨P, w, K, mg⟩ base 1 "_law_mix" [false, false] (pur sp_l_mix) := Fn.mk' F_l_mix (He.glo_ok KX G (c.d.fact 0 (f := .glo "_law_mix") rfl)) b_l_mix (ok_l_mix (j := 0)  F_l_mix r_l_mix)
  obtain ⟨fd_l_at, F_l_at⟩ := c.d.def_ 1 (d := d_l_at) rfl
  have b_l_at := F_l_at.bindsN (ps := ["_law_script", "_law_k"]) fun _ _ _ _ _ _ us hl => match us, hl with | [_, _], _ => rfl
  have h_l_at : Fn ⟨P, w, K, mg⟩ base 1 "_law_at" [false, false] (pur sp_l_at) := Fn.mk' F_l_at (He.glo_ok KX G (c.d.fact 1 (f := .glo "_law_at") rfl)) b_l_at (ok_l_at (j := 0) (He.free_ok KX G (c.d.fact 34 (f := .free "len") rfl)) F_l_at r_l_at)
  obtain ⟨fd_l_names, F_l_names⟩ := c.d.def_ 2 (d := d_l_names) rfl
  have b_l_names := F_l_names.bindsN (ps := ["_law_cell", "_law_many", "_law_firsts"]) fun _ _ _ _ _ _ us hl => match us, hl with | [_, _, _], _ => rfl
  have h_l_names : Fn ⟨P, w, K, mg⟩ base 2 "_law_names" [false, false, false] (pur sp_l_names) := Fn.mk' F_l_names (He.glo_ok KX G (c.d.fact 2 (f := .glo "_law_names") rfl)) b_l_names (ok_l_names (j := 1) (He.free_ok KX G (c.d.fact 34 (f := .free "len") rfl)) (He.free_ok KX G (c.d.fact 35 (f := .free "range") rfl)) (h_l_mix.up (by decide)) F_l_names r_l_names)
  obtain ⟨fd_l_lowest, F_l_lowest⟩ := c.d.def_ 3 (d := d_l_lowest) rfl
  have b_l_lowest := F_l_lowest.bindsN (ps := ["_law_top", "_law_bottom"]) fun _ _ _ _ _ _ us hl => match us, hl with | [_, _], _ => rfl
  have h_l_lowest : Fn ⟨P, w, K, mg⟩ base 1 "_law_lowest" [false, false] (pur sp_l_lowest) := Fn.mk' F_l_lowest (He.glo_ok KX G (c.d.fact 3 (f := .glo "_law_lowest") rfl)) b_l_lowest (ok_l_lowest (j := 0) (He.free_ok KX G (c.d.fact 36 (f := .free "abs") rfl)) F_l_lowest r_l_lowest)
  obtain ⟨fd_l_weight_k09, F_l_weight_k09⟩ := c.d.def_ 4 (d := d_l_weight_k09) rfl
  have b_l_weight_k09 := F_l_weight_k09.bindsN (ps := ["_law_cell", "_law_k", "_law_scale"]) fun _ _ _ _ _ _ us hl => match us, hl with | [_, _, _], _ => rfl
  have h_l_weight_k09 : Fn ⟨P, w, K, mg⟩ base 2 "_law_weight" [false, false, false] (pur sp_l_weight_k09) := Fn.mk' F_l_weight_k09 (He.glo_ok KX G (c.d.fact 4 (f := .glo "_law_weight") rfl)) b_l_weight_k09 (ok_l_weight_k09 (j := 1) (He.free_ok KX G (c.d.fact 37 (f := .free "int") rfl)) (h_l_mix.up (by decide)) (h_l_lowest.up (by decide)) F_l_weight_k09 r_l_weight_k09)
  obtain ⟨fd_l_wild_parts, F_l_wild_parts⟩ := c.d.def_ 5 (d := d_l_wild_parts) rfl
  have b_l_wild_parts := F_l_wild_parts.bindsN (ps := ["_law_cells", "_law_mode", "_law_heads", "_law_kinds", "_law_words", "_law_head"]) fun _ _ _ _ _ _ us hl => match us, hl with | [_, _, _, _, _, _], _ => rfl
  have h_l_wild_parts : Fn ⟨P, w, K, mg⟩ base 2 "_law_wild_parts" [false, false, false, false, false, false] (pur sp_l_wild_parts) := Fn.mk' F_l_wild_parts (He.glo_ok KX G (c.d.fact 5 (f := .glo "_law_wild_parts") rfl)) b_l_wild_parts (ok_l_wild_parts (j := 1) (He.free_ok KX G (c.d.fact 34 (f := .free "len") rfl)) (He.free_ok KX G (c.d.fact 38 (f := .free "list") rfl)) (He.free_ok KX G (c.d.fact 35 (f := .free "range") rfl)) (h_l_mix.up (by decide)) F_l_wild_parts r_l_wild_parts)
  obtain ⟨fd_l_wild_rows_k11, F_l_wild_rows_k11⟩ := c.d.def_ 6 (d := d_l_wild_rows_k11) rfl
  have b_l_wild_rows_k11 := F_l_wild_rows_k11.bindsN (ps := ["_law_script", "_law_mode", "_law_scale"]) fun _ _ _ _ _ _ us hl => match us, hl with | [_, _, _], _ => rfl
  have h_l_wild_rows_k11 : Fn ⟨P, w, K, mg⟩ base 3 "_law_wild_rows" [false, false, false] (pur sp_l_wild_rows_k11) := Fn.mk' F_l_wild_rows_k11 (He.glo_ok KX G (c.d.fact 6 (f := .glo "_law_wild_rows") rfl)) b_l_wild_rows_k11 (ok_l_wild_rows_k11 (j := 2) (He.free_ok KX G (c.d.fact 35 (f := .free "range") rfl)) (He.free_ok KX G (c.d.fact 34 (f := .free "len") rfl)) (He.free_ok KX G (c.d.fact 37 (f := .free "int") rfl)) (h_l_names.up (by decide)) (h_l_at.up (by decide)) (h_l_mix.up (by decide)) (h_l_weight_k09.up (by decide)) (h_l_wild_parts.up (by decide)) F_l_wild_rows_k11 r_l_wild_rows_k11)
  obtain ⟨fd_l_own_words, F_l_own_words⟩ := c.d.def_ 7 (d := d_l_own_words) rfl
  have b_l_own_words := F_l_own_words.bindsN (ps := ["_law_rows", "_law_number"]) fun _ _ _ _ _ _ us hl => match us, hl with | [_, _], _ => rfl
  have h_l_own_words : Fn ⟨P, w, K, mg⟩ base 1 "_law_own_words" [false, false] (pur sp_l_own_words) := Fn.mk' F_l_own_words (He.glo_ok KX G (c.d.fact 7 (f := .glo "_law_own_words") rfl)) b_l_own_words (ok_l_own_words (j := 0) (He.free_ok KX G (c.d.fact 34 (f := .free "len") rfl)) F_l_own_words r_l_own_words)
  obtain ⟨fd_l_line, F_l_line⟩ := c.d.def_ 8 (d := d_l_line) rfl
  have b_l_line := F_l_line.bindsN (ps := ["_law_row", "_law_by"]) fun _ _ _ _ _ _ us hl => match us, hl with | [_, _], _ => rfl
  have h_l_line : Fn ⟨P, w, K, mg⟩ base 1 "_law_line" [false, false] (pur sp_l_line) := Fn.mk' F_l_line (He.glo_ok KX G (c.d.fact 8 (f := .glo "_law_line") rfl)) b_l_line (ok_l_line (j := 0) (He.free_ok KX G (c.d.fact 39 (f := .free "str") rfl)) F_l_line r_l_line)
  obtain ⟨fd_fraction_text, F_fraction_text⟩ := c.d.def_ 9 (d := d_fraction_text) rfl
  have b_fraction_text := F_fraction_text.bindsN (ps := ["one"]) fun _ _ _ _ _ _ us hl => match us, hl with | [_], _ => rfl
  have h_fraction_text : Fn ⟨P, w, K, mg⟩ base 1 "fraction_text" [false] (pur sp_fraction_text) := Fn.mk' F_fraction_text (He.glo_ok KX G (c.d.fact 9 (f := .glo "fraction_text") rfl)) b_fraction_text (ok_fraction_text (j := 0) (He.free_ok KX G (c.d.fact 39 (f := .free "str") rfl)) F_fraction_text r_fraction_text)
  obtain ⟨fd_rule_text, F_rule_text⟩ := c.d.def_ 10 (d := d_rule_text) rfl
  have b_rule_text := F_rule_text.bindsN (ps := ["rule"]) fun _ _ _ _ _ _ us hl => match us, hl with | [_], _ => rfl
  have h_rule_text : Fn ⟨P, w, K, mg⟩ base 2 "rule_text" [false] (pur sp_rule_text) := Fn.mk' F_rule_text (He.glo_ok KX G (c.d.fact 10 (f := .glo "rule_text") rfl)) b_rule_text (ok_rule_text (j := 1) (fldB_ok KX G (c.e 0 (f := fldB "title" ["Rule"]) rfl)) (fldB_ok KX G (c.e 1 (f := fldB "head" ["Rule"]) rfl)) (fldB_ok KX G (c.e 2 (f := fldB "parts" ["Rule"]) rfl)) (He.free_ok KX G (c.d.fact 38 (f := .free "list") rfl)) (fldB_ok KX G (c.e 3 (f := fldB "weight" ["Rule"]) rfl)) (fldB_ok KX G (c.e 4 (f := fldB "tag" ["Rule"]) rfl)) (fldB_ok KX G (c.e 5 (f := fldB "under" ["Rule"]) rfl)) (h_fraction_text.up (by decide)) F_rule_text r_rule_text)
  obtain ⟨fd_grammar_text, F_grammar_text⟩ := c.d.def_ 11 (d := d_grammar_text) rfl
  have b_grammar_text := F_grammar_text.bindsN (ps := ["grammar"]) fun _ _ _ _ _ _ us hl => match us, hl with | [_], _ => rfl
  have h_grammar_text : Fn ⟨P, w, K, mg⟩ base 3 "grammar_text" [false] (pur sp_grammar_text) := Fn.mk' F_grammar_text (He.glo_ok KX G (c.d.fact 11 (f := .glo "grammar_text") rfl)) b_grammar_text (ok_grammar_text (j := 2) (fldB_ok KX G (c.e 6 (f := fldB "scale" ["Grammar"]) rfl)) (fldB_ok KX G (c.e 7 (f := fldB "start" ["Grammar"]) rfl)) (fldB_ok KX G (c.e 8 (f := fldB "rules" ["Grammar"]) rfl)) (h_rule_text.up (by decide)) F_grammar_text r_grammar_text)
  obtain ⟨fd_line_words, F_line_words⟩ := c.d.def_ 12 (d := d_line_words) rfl
  have b_line_words := F_line_words.bindsN (ps := ["line"]) fun _ _ _ _ _ _ us hl => match us, hl with | [_], _ => rfl
  have h_line_words : Fn ⟨P, w, K, mg⟩ base 1 "line_words" [false] (pur sp_line_words) := Fn.mk' F_line_words (He.glo_ok KX G (c.d.fact 12 (f := .glo "line_words") rfl)) b_line_words (ok_line_words (j := 0) (xcB_ok KX G (c.e 9 (f := xcB "NoLine") rfl)) F_line_words r_line_words)
  obtain ⟨fd_is_name_k12, F_is_name_k12⟩ := c.d.def_ 13 (d := d_is_name_k12) rfl
  have b_is_name_k12 := F_is_name_k12.bindsN (ps := ["text"]) fun _ _ _ _ _ _ us hl => match us, hl with | [_], _ => rfl
  have h_is_name_k12 : Fn ⟨P, w, K, mg⟩ base 1 "is_name" [false] (pur sp_is_name) := Fn.mk' F_is_name_k12 (He.glo_ok KX G (c.d.fact 13 (f := .glo "is_name") rfl)) b_is_name_k12 (ok_is_name_k12 (j := 0) (He.free_ok KX G (c.d.fact 34 (f := .free "len") rfl)) (He.str_ok KX G (c.d.fact 40 (f := .str "SMALL" "abcdefghijklmnopqrstuvwxyz") rfl)) (He.str_ok KX G (c.d.fact 41 (f := .str "GREAT" "ABCDEFGHIJKLMNOPQRSTUVWXYZ") rfl)) (He.str_ok KX G (c.d.fact 42 (f := .str "FIGURES_grammars" "0123456789") rfl)) F_is_name_k12 r_is_name_k12)
  obtain ⟨fd_is_word, F_is_word⟩ := c.d.def_ 14 (d := d_is_word) rfl
  have b_is_word := F_is_word.bindsN (ps := ["text"]) fun _ _ _ _ _ _ us hl => match us, hl with | [_], _ => rfl
  have h_is_word : Fn ⟨P, w, K, mg⟩ base 2 "is_word" [false] (pur sp_is_word) := Fn.mk' F_is_word (He.glo_ok KX G (c.d.fact 14 (f := .glo "is_word") rfl)) b_is_word (ok_is_word (j := 1) (He.str_ok KX G (c.d.fact 41 (f := .str "GREAT" "ABCDEFGHIJKLMNOPQRSTUVWXYZ") rfl)) (h_is_name_k12.up (by decide)) F_is_word r_is_word)
  obtain ⟨fd_is_kind, F_is_kind⟩ := c.d.def_ 15 (d := d_is_kind) rfl
  have b_is_kind := F_is_kind.bindsN (ps := ["text"]) fun _ _ _ _ _ _ us hl => match us, hl with | [_], _ => rfl
  have h_is_kind : Fn ⟨P, w, K, mg⟩ base 2 "is_kind" [false] (pur sp_is_kind) := Fn.mk' F_is_kind (He.glo_ok KX G (c.d.fact 15 (f := .glo "is_kind") rfl)) b_is_kind (ok_is_kind (j := 1) (He.str_ok KX G (c.d.fact 41 (f := .str "GREAT" "ABCDEFGHIJKLMNOPQRSTUVWXYZ") rfl)) (h_is_name_k12.up (by decide)) F_is_kind r_is_kind)
  obtain ⟨fd_are_figures_k12, F_are_figures_k12⟩ := c.d.def_ 16 (d := d_are_figures_k12) rfl
  have b_are_figures_k12 := F_are_figures_k12.bindsN (ps := ["text"]) fun _ _ _ _ _ _ us hl => match us, hl with | [_], _ => rfl
  have h_are_figures_k12 : Fn ⟨P, w, K, mg⟩ base 1 "are_figures" [false] (pur sp_are_figures) := Fn.mk' F_are_figures_k12 (He.glo_ok KX G (c.d.fact 16 (f := .glo "are_figures") rfl)) b_are_figures_k12 (ok_are_figures_k12 (j := 0) (He.free_ok KX G (c.d.fact 34 (f := .free "len") rfl)) (He.int_ok KX G (c.d.fact 43 (f := .int "MOST_FIGURES" 40) rfl)) (He.str_ok KX G (c.d.fact 44 (f := .str "FIGURES_fractions" "0123456789") rfl)) F_are_figures_k12 r_are_figures_k12)
  obtain ⟨fd_common_divisor, F_common_divisor⟩ := c.d.def_ 17 (d := d_common_divisor) rfl
  have b_common_divisor := F_common_divisor.bindsN (ps := ["one", "other"]) fun _ _ _ _ _ _ us hl => match us, hl with | [_, _], _ => rfl
  have h_common_divisor : Fn ⟨P, w, K, mg⟩ base 1 "common_divisor" [false, false] (pur sp_common_divisor) := Fn.mk' F_common_divisor (He.glo_ok KX G (c.d.fact 17 (f := .glo "common_divisor") rfl)) b_common_divisor (ok_common_divisor (j := 0) (He.free_ok KX G (c.d.fact 36 (f := .free "abs") rfl)) F_common_divisor r_common_divisor)
  obtain ⟨fd_fraction, F_fraction⟩ := c.d.def_ 18 (d := d_fraction) rfl
  have b_fraction := F_fraction.bindsN (ps := ["top", "bottom"]) fun _ _ _ _ _ _ us hl => match us, hl with | [_, _], _ => rfl
  have h_fraction : Fn ⟨P, w, K, mg⟩ base 2 "fraction" [false, false] (pur sp_fraction) := Fn.mk' F_fraction (He.glo_ok KX G (c.d.fact 18 (f := .glo "fraction") rfl)) b_fraction (ok_fraction (j := 1) (h_common_divisor.up (by decide)) F_fraction r_fraction)
  obtain ⟨fd_read_fraction, F_read_fraction⟩ := c.d.def_ 19 (d := d_read_fraction) rfl
  have b_read_fraction := F_read_fraction.bindsN (ps := ["text"]) fun _ _ _ _ _ _ us hl => match us, hl with | [_], _ => rfl
  have h_read_fraction : Fn ⟨P, w, K, mg⟩ base 3 "read_fraction" [false] (pur sp_read_fraction) := Fn.mk' F_read_fraction (He.glo_ok KX G (c.d.fact 19 (f := .glo "read_fraction") rfl)) b_read_fraction (ok_read_fraction (j := 2) (xcB_ok KX G (c.e 9 (f := xcB "NoLine") rfl)) (He.free_ok KX G (c.d.fact 37 (f := .free "int") rfl)) (h_are_figures_k12.up (by decide)) (h_fraction.up (by decide)) F_read_fraction r_read_fraction)
  obtain ⟨fd_all_words, F_all_words⟩ := c.d.def_ 20 (d := d_all_words) rfl
  have b_all_words := F_all_words.bindsN (ps := ["texts"]) fun _ _ _ _ _ _ us hl => match us, hl with | [_], _ => rfl
  have h_all_words : Fn ⟨P, w, K, mg⟩ base 3 "all_words" [true] (pur sp_all_words) := Fn.mk' F_all_words (He.glo_ok KX G (c.d.fact 20 (f := .glo "all_words") rfl)) b_all_words (ok_all_words (j := 2) (He.free_ok KX G (c.d.fact 45 (f := .free "all") rfl)) (h_is_word.up (by decide)) F_all_words r_all_words)
  obtain ⟨fd_read_ties, F_read_ties⟩ := c.d.def_ 21 (d := d_read_ties) rfl
  have b_read_ties := F_read_ties.bindsN (ps := ["words"]) fun _ _ _ _ _ _ us hl => match us, hl with | [_], _ => rfl
  have h_read_ties : Fn ⟨P, w, K, mg⟩ base 4 "read_ties" [false] (pur sp_read_ties) := Fn.mk' F_read_ties (He.glo_ok KX G (c.d.fact 21 (f := .glo "read_ties") rfl)) b_read_ties (ok_read_ties (j := 3) (He.free_ok KX G (c.d.fact 34 (f := .free "len") rfl)) (xcB_ok KX G (c.e 9 (f := xcB "NoLine") rfl)) (He.free_ok KX G (c.d.fact 46 (f := .free "tuple") rfl)) (h_is_word.up (by decide)) (h_all_words.up (by decide)) F_read_ties r_read_ties)
  obtain ⟨fd_Rule_init, F_Rule_init⟩ := c.d.def_ 22 (d := d_Rule_init) rfl
  have f_Rule_init : FnB ⟨P, w, K, mg⟩ base 4 _ fd_Rule_init ["self", "title", "head", "parts", "weight", "tag", "under"] [false, false, false, true, false, false, true] (sp_Rule_init) := ok_Rule_init (j := 3) (xcB_ok KX G (c.e 10 (f := xcB "NoRule") rfl)) (He.free_ok KX G (c.d.fact 34 (f := .free "len") rfl)) (He.free_ok KX G (c.d.fact 45 (f := .free "all") rfl)) (fldB_ok KX G (c.e 0 (f := fldB "title" ["Rule"]) rfl)) (fldB_ok KX G (c.e 1 (f := fldB "head" ["Rule"]) rfl)) (fldB_ok KX G (c.e 2 (f := fldB "parts" ["Rule"]) rfl)) (He.free_ok KX G (c.d.fact 46 (f := .free "tuple") rfl)) (fldB_ok KX G (c.e 3 (f := fldB "weight" ["Rule"]) rfl)) (fldB_ok KX G (c.e 4 (f := fldB "tag" ["Rule"]) rfl)) (fldB_ok KX G (c.e 5 (f := fldB "under" ["Rule"]) rfl)) (h_is_word.up (by decide)) (h_is_kind.up (by decide)) (h_is_name_k12.up (by decide)) (h_all_words.up (by decide)) F_Rule_init r_Rule_init
  have h_Rule_0 : MkF ⟨P, w, K, mg⟩ base 4 "Rule" (false :: ([false, false, true, false, false, true] ++ [])) [] (sp_Rule_init) := MkF.mk' KX G (c.e 11 (f := mkB "Rule") rfl) (F_Rule_init.binds1 (ps := ["self", "title", "head", "parts", "weight", "tag", "under"]) 7 2 (List.cons_ne_nil _ _) rfl fun _ _ _ _ _ _ _ us its hl hi => match us, hl, its, hi with | [_, _, _, _, _, _, _], _, [_, _], _ => ⟨_, rfl, rfl⟩) (fun _ => .nil) f_Rule_init
  obtain ⟨fd_read_rule, F_read_rule⟩ := c.d.def_ 23 (d := d_read_rule) rfl
  have b_read_rule := F_read_rule.bindsN (ps := ["words"]) fun _ _ _ _ _ _ us hl => match us, hl with | [_], _ => rfl
  have h_read_rule : Fn ⟨P, w, K, mg⟩ base 6 "read_rule" [false] (sp_read_rule) := Fn.mk' F_read_rule (He.glo_ok KX G (c.d.fact 22 (f := .glo "read_rule") rfl)) b_read_rule (ok_read_rule (j := 5) (He.free_ok KX G (c.d.fact 34 (f := .free "len") rfl)) (xcB_ok KX G (c.e 9 (f := xcB "NoLine") rfl)) (He.free_ok KX G (c.d.fact 45 (f := .free "all") rfl)) (h_is_word.up (by decide)) (h_is_kind.up (by decide)) (h_is_name_k12.up (by decide)) (h_read_fraction.up (by decide)) (h_read_ties.up (by decide)) (h_Rule_0.up (j := 4) (by decide)) (by decide) F_read_rule r_read_rule)
  obtain ⟨fd_grammar_rows, F_grammar_rows⟩ := c.d.def_ 24 (d := d_grammar_rows) rfl
  have b_grammar_rows := F_grammar_rows.bindsN (ps := ["lines"]) fun _ _ _ _ _ _ us hl => match us, hl with | [_], _ => rfl
  have h_grammar_rows : Fn ⟨P, w, K, mg⟩ base 7 "grammar_rows" [false] (sp_grammar_rows) := Fn.mk' F_grammar_rows (He.glo_ok KX G (c.d.fact 23 (f := .glo "grammar_rows") rfl)) b_grammar_rows (ok_grammar_rows (j := 6) (He.free_ok KX G (c.d.fact 34 (f := .free "len") rfl)) (xcB_ok KX G (c.e 9 (f := xcB "NoLine") rfl)) (h_line_words.up (by decide)) (h_is_word.up (by decide)) (h_is_kind.up (by decide)) (h_read_rule.up (by decide)) F_grammar_rows r_grammar_rows)
  obtain ⟨fd_left_out, F_left_out⟩ := c.d.def_ 25 (d := d_left_out) rfl
  have b_left_out := F_left_out.bindsN (ps := ["line"]) fun _ _ _ _ _ _ us hl => match us, hl with | [_], _ => rfl
  have h_left_out : Fn ⟨P, w, K, mg⟩ base 1 "left_out" [false] (pur sp_left_out) := Fn.mk' F_left_out (He.glo_ok KX G (c.d.fact 24 (f := .glo "left_out") rfl)) b_left_out (ok_left_out (j := 0)  F_left_out r_left_out)
  obtain ⟨fd_Chance_takes, F_Chance_takes⟩ := c.d.def_ 26 (d := d_Chance_takes) rfl
  have b_Chance_takes := F_Chance_takes.bindsN (ps := ["self", "weight"]) fun _ _ _ _ _ _ us hl => match us, hl with | [_, _], _ => rfl
  have f_Chance_takes : FnB ⟨P, w, K, mg⟩ base 1 _ fd_Chance_takes ["self", "weight"] [false, false] (pur sp_Chance_takes) := ok_Chance_takes (j := 0)  F_Chance_takes r_Chance_takes
  obtain ⟨fd_Scale_takes, F_Scale_takes⟩ := c.d.def_ 27 (d := d_Scale_takes) rfl
  have b_Scale_takes := F_Scale_takes.bindsN (ps := ["self", "weight"]) fun _ _ _ _ _ _ us hl => match us, hl with | [_, _], _ => rfl
  have f_Scale_takes : FnB ⟨P, w, K, mg⟩ base 1 _ fd_Scale_takes ["self", "weight"] [false, false] (pur sp_Scale_takes) := ok_Scale_takes (j := 0)  F_Scale_takes r_Scale_takes
  have h_Chance_takes : MtF ⟨P, w, K, mg⟩ base 1 "Chance" "takes" [false, false] (pur sp_Chance_takes) := MtF.mk' KX G (c.e 14 (f := mtB "Chance" "takes" "Chance") rfl) b_Chance_takes f_Chance_takes
  have h_Cost_takes : MtF ⟨P, w, K, mg⟩ base 1 "Cost" "takes" [false, false] (pur sp_Scale_takes) := MtF.mk' KX G (c.e 15 (f := mtB "Cost" "takes" "Scale") rfl) b_Scale_takes f_Scale_takes
  obtain ⟨fd_look_at_weights, F_look_at_weights⟩ := c.d.def_ 28 (d := d_look_at_weights) rfl
  have b_look_at_weights := F_look_at_weights.bindsN (ps := ["scale", "rules"]) fun _ _ _ _ _ _ us hl => match us, hl with | [_, _], _ => rfl
  have h_look_at_weights : Fn ⟨P, w, K, mg⟩ base 2 "look_at_weights" [false, true] (sp_look_at_weights) := Fn.mk' F_look_at_weights (He.glo_ok KX G (c.d.fact 25 (f := .glo "look_at_weights") rfl)) b_look_at_weights (ok_look_at_weights (j := 1) (fldB_ok KX G (c.e 3 (f := fldB "weight" ["Rule"]) rfl)) (xcB_ok KX G (c.e 12 (f := xcB "NoWeight") rfl)) (fldB_ok KX G (c.e 0 (f := fldB "title" ["Rule"]) rfl)) (xcB_ok KX G (c.e 13 (f := xcB "Twice") rfl)) (h_Chance_takes.up (by decide)) (h_Cost_takes.up (by decide)) F_look_at_weights r_look_at_weights)
  obtain ⟨fd_scale_of, F_scale_of⟩ := c.d.def_ 29 (d := d_scale_of) rfl
  have b_scale_of := F_scale_of.bindsN (ps := ["word"]) fun _ _ _ _ _ _ us hl => match us, hl with | [_], _ => rfl
  have h_scale_of : Fn ⟨P, w, K, mg⟩ base 1 "scale_of" [false] (pur sp_scale_of) := Fn.mk' F_scale_of (He.glo_ok KX G (c.d.fact 26 (f := .glo "scale_of") rfl)) b_scale_of (ok_scale_of (j := 0) (mk0B_ok KX G (c.e 16 (f := mk0B "Cost") rfl)) (mk0B_ok KX G (c.e 17 (f := mk0B "Chance") rfl)) (xcB_ok KX G (c.e 18 (f := xcB "NoScale") rfl)) F_scale_of r_scale_of)
  obtain ⟨fd_look_at_kinds, F_look_at_kinds⟩ := c.d.def_ 30 (d := d_look_at_kinds) rfl
  have b_look_at_kinds := F_look_at_kinds.bindsN (ps := ["start", "rules"]) fun _ _ _ _ _ _ us hl => match us, hl with | [_, _], _ => rfl
  have h_look_at_kinds : Fn ⟨P, w, K, mg⟩ base 3 "look_at_kinds" [false, true] (sp_look_at_kinds) := Fn.mk' F_look_at_kinds (He.glo_ok KX G (c.d.fact 27 (f := .glo "look_at_kinds") rfl)) b_look_at_kinds (ok_look_at_kinds (j := 2) (fldB_ok KX G (c.e 1 (f := fldB "head" ["Rule"]) rfl)) (fldB_ok KX G (c.e 2 (f := fldB "parts" ["Rule"]) rfl)) (xcB_ok KX G (c.e 19 (f := xcB "NoKind") rfl)) (h_is_kind.up (by decide)) F_look_at_kinds r_look_at_kinds)
  obtain ⟨fd_single_kinds, F_single_kinds⟩ := c.d.def_ 31 (d := d_single_kinds) rfl
  have b_single_kinds := F_single_kinds.bindsN (ps := ["rules"]) fun _ _ _ _ _ _ us hl => match us, hl with | [_], _ => rfl
  have h_single_kinds : Fn ⟨P, w, K, mg⟩ base 3 "single_kinds" [true] (sp_single_kinds) := Fn.mk' F_single_kinds (He.glo_ok KX G (c.d.fact 28 (f := .glo "single_kinds") rfl)) b_single_kinds (ok_single_kinds (j := 2) (fldB_ok KX G (c.e 2 (f := fldB "parts" ["Rule"]) rfl)) (He.free_ok KX G (c.d.fact 34 (f := .free "len") rfl)) (fldB_ok KX G (c.e 1 (f := fldB "head" ["Rule"]) rfl)) (h_is_kind.up (by decide)) F_single_kinds r_single_kinds)
  obtain ⟨fd_comes_back, F_comes_back⟩ := c.d.def_ 32 (d := d_comes_back) rfl
  have b_comes_back := F_comes_back.bindsN (ps := ["steps", "kind"]) fun _ _ _ _ _ _ us hl => match us, hl with | [_, _], _ => rfl
  have h_comes_back : Fn ⟨P, w, K, mg⟩ base 1 "comes_back" [false, false] (sp_comes_back) := Fn.mk' F_comes_back (He.glo_ok KX G (c.d.fact 29 (f := .glo "comes_back") rfl)) b_comes_back (ok_comes_back (j := 0) (He.free_ok KX G (c.d.fact 38 (f := .free "list") rfl)) (He.free_ok KX G (c.d.fact 34 (f := .free "len") rfl)) F_comes_back r_comes_back)
  obtain ⟨fd_Grammar_init, F_Grammar_init⟩ := c.d.def_ 33 (d := d_Grammar_init) rfl
  have b_Grammar_init := F_Grammar_init.bindsN (ps := ["self", "scale", "start", "rules"]) fun _ _ _ _ _ _ us hl => match us, hl with | [_, _, _, _], _ => rfl
  have f_Grammar_init : FnB ⟨P, w, K, mg⟩ base 4 _ fd_Grammar_init ["self", "scale", "start", "rules"] [false, false, false, true] (sp_Grammar_init) := ok_Grammar_init (j := 3) (fldB_ok KX G (c.e 5 (f := fldB "under" ["Rule"]) rfl)) (xcB_ok KX G (c.e 20 (f := xcB "NoTitle") rfl)) (xcB_ok KX G (c.e 21 (f := xcB "Ring") rfl)) (fldB_ok KX G (c.e 6 (f := fldB "scale" ["Grammar"]) rfl)) (fldB_ok KX G (c.e 7 (f := fldB "start" ["Grammar"]) rfl)) (fldB_ok KX G (c.e 8 (f := fldB "rules" ["Grammar"]) rfl)) (He.free_ok KX G (c.d.fact 46 (f := .free "tuple") rfl)) (h_look_at_weights.up (by decide)) (h_scale_of.up (by decide)) (h_look_at_kinds.up (by decide)) (h_single_kinds.up (by decide)) (h_comes_back.up (by decide)) F_Grammar_init r_Grammar_init
  have h_Grammar_0 : MkF ⟨P, w, K, mg⟩ base 4 "Grammar" (false :: ([false, false, true] ++ [])) [] (sp_Grammar_init) := MkF.mk' KX G (c.e 22 (f := mkB "Grammar") rfl) ⟨[], .nil, b_Grammar_init⟩ (fun _ => .nil) f_Grammar_init
  obtain ⟨fd_read_grammar, F_read_grammar⟩ := c.d.def_ 34 (d := d_read_grammar) rfl
  have b_read_grammar := F_read_grammar.bindsN (ps := ["text"]) fun _ _ _ _ _ _ us hl => match us, hl with | [_], _ => rfl
  have h_read_grammar : Fn ⟨P, w, K, mg⟩ base 8 "read_grammar" [false] (sp_read_grammar) := Fn.mk' F_read_grammar (He.glo_ok KX G (c.d.fact 30 (f := .glo "read_grammar") rfl)) b_read_grammar (ok_read_grammar (j := 7) (h_grammar_rows.up (by decide)) (h_left_out.up (by decide)) (h_Grammar_0.up (j := 6) (by decide)) (by decide) F_read_grammar r_read_grammar)
  obtain ⟨fd_l_rule_is, F_l_rule_is⟩ := c.d.def_ 35 (d := d_l_rule_is) rfl
  have b_l_rule_is := F_l_rule_is.bindsN (ps := ["_law_rule", "_law_row"]) fun _ _ _ _ _ _ us hl => match us, hl with | [_, _], _ => rfl
  have h_l_rule_is : Fn ⟨P, w, K, mg⟩ base 1 "_law_rule_is" [false, false] (pur sp_l_rule_is) := Fn.mk' F_l_rule_is (He.glo_ok KX G (c.d.fact 31 (f := .glo "_law_rule_is") rfl)) b_l_rule_is (ok_l_rule_is (j := 0) (fldB_ok KX G (c.e 0 (f := fldB "title" ["Rule"]) rfl)) (fldB_ok KX G (c.e 1 (f := fldB "head" ["Rule"]) rfl)) (fldB_ok KX G (c.e 3 (f := fldB "weight" ["Rule"]) rfl)) (fldB_ok KX G (c.e 4 (f := fldB "tag" ["Rule"]) rfl)) (fldB_ok KX G (c.e 2 (f := fldB "parts" ["Rule"]) rfl)) (He.free_ok KX G (c.d.fact 47 (f := .free "isinstance") rfl)) (He.free_ok KX G (c.d.fact 46 (f := .free "tuple") rfl)) (fldB_ok KX G (c.e 5 (f := fldB "under" ["Rule"]) rfl)) F_l_rule_is r_l_rule_is)
  obtain ⟨fd_l_kept, F_l_kept⟩ := c.d.def_ 36 (d := d_l_kept) rfl
  have b_l_kept := F_l_kept.bindsN (ps := ["_law_made", "_law_scale", "_law_start", "_law_rows"]) fun _ _ _ _ _ _ us hl => match us, hl with | [_, _, _, _], _ => rfl
  have h_l_kept : Fn ⟨P, w, K, mg⟩ base 2 "_law_kept" [false, false, false, false] (pur sp_l_kept) := Fn.mk' F_l_kept (He.glo_ok KX G (c.d.fact 32 (f := .glo "_law_kept") rfl)) b_l_kept (ok_l_kept (j := 1) (fldB_ok KX G (c.e 6 (f := fldB "scale" ["Grammar"]) rfl)) (fldB_ok KX G (c.e 7 (f := fldB "start" ["Grammar"]) rfl)) (fldB_ok KX G (c.e 8 (f := fldB "rules" ["Grammar"]) rfl)) (He.free_ok KX G (c.d.fact 47 (f := .free "isinstance") rfl)) (He.free_ok KX G (c.d.fact 46 (f := .free "tuple") rfl)) (He.free_ok KX G (c.d.fact 34 (f := .free "len") rfl)) (He.free_ok KX G (c.d.fact 48 (f := .free "zip") rfl)) (He.free_ok KX G (c.d.fact 45 (f := .free "all") rfl)) (h_l_rule_is.up (by decide)) F_l_kept r_l_kept)
  exact (ok_law_k12 (B := ⟨P, w, K, mg⟩) (base := base) (j := 8) (He.free_ok KX G (c.d.fact 49 (f := .free "enumerate") rfl)) (He.free_ok KX G (c.d.fact 47 (f := .free "isinstance") rfl)) (He.free_ok KX G (c.d.fact 39 (f := .free "str") rfl)) (h_l_mix.up (by decide)) (h_l_at.up (by decide)) (h_l_wild_rows_k11.up (by decide)) (h_l_own_words.up (by decide)) (h_l_line.up (by decide)) (h_grammar_text.up (by decide)) (h_read_grammar.up (by decide)) (h_l_kept.up (by decide)) (h_Rule_0.up (j := 7) (by decide)) (h_Grammar_0.up (j := 7) (by decide)) (by decide) F_law r_law_k12 : FnB ⟨P, w, K, mg⟩ base 9 _ _ _ _ _)
end K12
end Z
open PySem PySem.W PySem.Calls PyProof.Rows
set_option maxRecDepth 100000 in
set_option maxHeartbeats 0 in
theorem PySem.Challenge.cw_kbestwood_k12_grammars_written_holds : PySem.Challenge.rw_kbestwood_k12_grammars_written.Holds := by
  w_on; o_law
  refine HandSHeadRun.head_any (r := OpenLaw.row PySem.Challenge.rw_kbestwood_k12_grammars_written) (q := view (OpenLaw.row PySem.Challenge.rw_kbestwood_k12_grammars_written).prog [62]) (H := Z.K12.hk) (ob := Z.K12.ob) (M := 20000) (loose := Z.K12.names) (d := HandSHeadRun.topDef (OpenLaw.row PySem.Challenge.rw_kbestwood_k12_grammars_written).prog 62) (kwd := []) Z.K12.ob_eq
    (by kernel_rfl) (fun s => by kernel_rfl) Z.K12.run (by kernel_rfl) (by kernel_rfl) (by kernel_rfl) (by rfl) (by first | assumption | decide +kernel) (by decide +kernel) ⟨rfl, rfl, rfl, rfl, rfl, by decide +kernel⟩ ?hw ?hc
  case hw => w_witness2
  case hc =>
    refine Z.walkZ (l := PySem.Challenge.rw_kbestwood_k12_grammars_written) (k := 9) (x := "_law_script") rfl (by kernel_rfl) ⟨rfl, by decide, by decide⟩ ?F
    intro w mg fa h Y G hmg0
    obtain ⟨K, KX, c⟩ := Y
    have hmg : mg ("law" : PySem.Str) = some (.ref fa) := by
      have e : (HandSHeadRun.topDef (OpenLaw.row PySem.Challenge.rw_kbestwood_k12_grammars_written).prog 62).name = ("law" : PySem.Str) := by kernel_rfl
      rw [← e]
      exact hmg0
    obtain ⟨fd, hb, hF⟩ := Z.K12.facts (P := (PySem.Challenge.rw_kbestwood_k12_grammars_written).prog) (w := w) KX G hmg c
    exact ⟨K, fd, _, KX, hb, fun H a ns hl hS => Z.law_ok (B := ⟨(PySem.Challenge.rw_kbestwood_k12_grammars_written).prog, w, K, mg⟩) H a ns hl hS, hF⟩
