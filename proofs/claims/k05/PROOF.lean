import PyProof.Rows.All
import Wide.All
import OpenK.AllK
import Wide.FinOn
import HandS.ForMost
import HandS.ForExc
import HandS.Wide
import HandS.Evl
import HandS.IsInst
import HandS.TupAny
import KE.KDictKeyed
import HandS.SetKeys
import HandS.TupLen
import HandS.Conv
import HandS.Defaults
import HandS.HeadEnd
import HandS.WordsExc
import HandS.ExcOwn
import HandS.StrMore
import HandS.Zip
import HandS.RevRange
import HandS.HeadHook2
import HandS.ExcIs
import HandS.New0
import HandS.More
import HandS.Deep
import HandS.TryMany
import PyProof.StrOps2
import HandS.Rev
import HandS.RevTup
import HandS.Flow
import KE.KStateDown
import Lean
import HandS.Words
import HandS.Head0
import HandS.Head1
import HandS.Head2
import HandS.HeadHook1
import PySem.Challenge.RW_kbestwood_k05_many_together
set_option Elab.async false
set_option linter.all false
set_option maxRecDepth 100000
set_option maxHeartbeats 4000000
/-! A layer of data over the hand layer: what a value stands for (D), worlds (what is frozen, what stands), a store of mutable objects, slots by data. -/
namespace Z
open PySem L2
open Evl (Ex)

inductive D where
  | non | bl (b : Bool) | int (i : Int) | str (x : Str)
  | lst (xs : List D) | tup (xs : List D)
  | obj (n : Str) (fs : List (Str × D))
  | ref (a : Addr) | ty (n : String) | cls (n : Str) | exc (n : Str)
  | dic (t : Bool) (kvs : List (D × D))
deriving Inhabited

structure Bx where
  P : Program
  w : World
  K : PySem.W.Frag
  mg : Str → Option Value
/-- where a class stands, by its name -/
def Bx.cl (B : Bx) (n : Str) : Addr := match B.mg n with | some (.ref C) => C | _ => 0

/-- an exception of the class at C stands at a -/
def ExcAt (a C : Addr) : Heap → Prop := fun h => ∃ oe vs, h.get? a = some oe ∧ oe.cls = .ref C ∧ oe.dict = none ∧ oe.data = .fields vs
/-- a dict whose keys are ints and texts stands at a -/
def DkAt (B : Bx) (a : Addr) (o : Obj) (kv : List (Key × V)) : Heap → Prop := fun h => h.get? a = some o ∧ kv.length ≤ sizeLine ∧ (a == sysModules) = false ∧ ∃ vs, KV kv vs ∧ h.DictOf (mixKind B.P B.w) a vs
/-- a dict whose keys are tuples stands at a -/
def RawD (B : Bx) (a : Addr) (o : Obj) (xs : List (NestedKey × Addr × Value)) : Heap → Prop := fun h => h.get? a = some o ∧ xs.length ≤ sizeLine ∧ (a == sysModules) = false ∧ o.ExactDict ∧ (xs.map (·.1)).Nodup ∧ ∃ es ep, o.data = .dict es ep ∧ es.toList = xs.map (entryOfKey (nestedKind B.P B.w))
mutual
/-- data as a key -/
def nk : D → Option NestedKey
  | .non => some .none
  | .bl b => some (.num (if b then 1 else 0))
  | .int i => some (.num i)
  | .str x => some (.text x)
  | .tup xs => (nks xs).map .tup
  | _ => none
def nks : List D → Option (List NestedKey)
  | [] => some []
  | d :: ds => match nk d, nks ds with | some k, some ks => some (k :: ks) | _, _ => none
end
def keyD : Key → D
  | .inl i => .int i
  | .inr x => .str x

mutual
inductive Rp (B : Bx) (F : Hp) : V → D → Prop
  | non : Rp B F .non .non
  | bl (b : Bool) : Rp B F (.bl b) (.bl b)
  | int (i : Int) : Rp B F (.int i) (.int i)
  | str (x : Str) : Rp B F (.str x) (.str x)
  | ty (n : String) : Rp B F (.ty n) (.ty n)
  | cls (n : Str) : Rp B F (.ref (B.cl n)) (.cls n)
  | ref (a : Addr) : Rp B F (.ref a) (.ref a)
  | lst {a : Addr} {xs : List V} {ds : List D} : SqL B.K F a xs → RpAll B F xs ds → Rp B F (.ref a) (.lst ds)
  | tup {a : Addr} {xs : List V} {ds : List D} : SqT B.K F a xs → RpAll B F xs ds → Rp B F (.ref a) (.tup ds)
  | obj {a dx : Addr} {n : Str} {fv : List (Str × V)} {fs : List (Str × D)} : F a = some (.ins (B.cl n) dx fv) → RpF B F fv fs → Rp B F (.ref a) (.obj n fs)
  | exc {a : Addr} {n : Str} : F a = some (.ext (ExcAt a (B.cl n))) → Rp B F (.ref a) (.exc n)
  | dic {a : Addr} {o : Obj} {kv : List (Key × V)} {ks : List (D × D)} : F a = some (.ext (DkAt B a o kv)) → RpK B F kv ks → Rp B F (.ref a) (.dic false ks)
  | dit {a : Addr} {o : Obj} {xs : List (NestedKey × Addr × Value)} {ks : List (D × D)} : F a = some (.ext (RawD B a o xs)) → RpX B F xs ks → Rp B F (.ref a) (.dic true ks)
inductive RpAll (B : Bx) (F : Hp) : List V → List D → Prop
  | nil : RpAll B F [] []
  | cons {v : V} {vs : List V} {d : D} {ds : List D} : Rp B F v d → RpAll B F vs ds → RpAll B F (v :: vs) (d :: ds)
inductive RpF (B : Bx) (F : Hp) : List (Str × V) → List (Str × D) → Prop
  | nil : RpF B F [] []
  | cons {f : Str} {v : V} {vs : List (Str × V)} {d : D} {ds : List (Str × D)} : Rp B F v d → RpF B F vs ds → RpF B F ((f, v) :: vs) ((f, d) :: ds)
inductive RpK (B : Bx) (F : Hp) : List (Key × V) → List (D × D) → Prop
  | nil : RpK B F [] []
  | cons {k : Key} {v : V} {vs : List (Key × V)} {d : D} {ds : List (D × D)} : Rp B F v d → RpK B F vs ds → RpK B F ((k, v) :: vs) ((keyD k, d) :: ds)
inductive RpX (B : Bx) (F : Hp) : List (NestedKey × Addr × Value) → List (D × D) → Prop
  | nil : RpX B F [] []
  | cons {k : NestedKey} {a : Addr} {u : Value} {v : V} {vs : List (NestedKey × Addr × Value)} {c d : D} {ds : List (D × D)} : Rp B F (.ref a) c → nk c = some k → k.depth ≤ 8 → RelV v u → Rp B F v d → RpX B F vs ds → RpX B F ((k, a, u) :: vs) ((c, d) :: ds)
end

mutual
theorem Rp.mono {B : Bx} {F F' : Hp} (e : Ex F F') : ∀ {v : V} {d : D}, Rp B F v d → Rp B F' v d
  | _, _, .non => .non
  | _, _, .bl b => .bl b
  | _, _, .int i => .int i
  | _, _, .str x => .str x
  | _, _, .ty n => .ty n
  | _, _, .cls n => .cls n
  | _, _, .ref a => .ref a
  | _, _, .lst h a => .lst (Evl.ex_l e h) (RpAll.mono e a)
  | _, _, .tup h a => .tup (Evl.ex_t e h) (RpAll.mono e a)
  | _, _, .obj h a => .obj (e _ _ h) (RpF.mono e a)
  | _, _, .exc h => .exc (e _ _ h)
  | _, _, .dic h a => .dic (e _ _ h) (RpK.mono e a)
  | _, _, .dit h a => .dit (e _ _ h) (RpX.mono e a)
theorem RpAll.mono {B : Bx} {F F' : Hp} (e : Ex F F') : ∀ {v : List V} {d : List D}, RpAll B F v d → RpAll B F' v d
  | _, _, .nil => .nil
  | _, _, .cons h t => .cons (Rp.mono e h) (RpAll.mono e t)
theorem RpF.mono {B : Bx} {F F' : Hp} (e : Ex F F') : ∀ {v : List (Str × V)} {d : List (Str × D)}, RpF B F v d → RpF B F' v d
  | _, _, .nil => .nil
  | _, _, .cons h t => .cons (Rp.mono e h) (RpF.mono e t)
theorem RpK.mono {B : Bx} {F F' : Hp} (e : Ex F F') : ∀ {v : List (Key × V)} {d : List (D × D)}, RpK B F v d → RpK B F' v d
  | _, _, .nil => .nil
  | _, _, .cons h t => .cons (Rp.mono e h) (RpK.mono e t)
theorem RpX.mono {B : Bx} {F F' : Hp} (e : Ex F F') : ∀ {v : List (NestedKey × Addr × Value)} {d : List (D × D)}, RpX B F v d → RpX B F' v d
  | _, _, .nil => .nil
  | _, _, .cons c n n8 r h t => .cons (Rp.mono e c) n n8 r (Rp.mono e h) (RpX.mono e t)
end

section
variable {B : Bx} {F F' : Hp}
theorem RpAll.length : ∀ {vs : List V} {ds : List D}, RpAll B F vs ds → vs.length = ds.length
  | _, _, .nil => rfl
  | _, _, .cons _ t => congrArg (· + 1) t.length
theorem RpAll.get : ∀ {vs : List V} {ds : List D} {i : Nat} {d : D}, RpAll B F vs ds → ds[i]? = some d → ∃ v, vs[i]? = some v ∧ Rp B F v d
  | _, _, _, _, .nil, e => by simp at e
  | _, _, 0, _, .cons h _, e => by simp at e; subst e; exact ⟨_, rfl, h⟩
  | _, _, i + 1, d, .cons _ t, e => by
    obtain ⟨v, h1, h2⟩ := RpAll.get (i := i) (d := d) t (by simpa using e)
    exact ⟨v, by simpa using h1, h2⟩
theorem RpAll.getV : ∀ {vs : List V} {ds : List D} {i : Nat} {v : V}, RpAll B F vs ds → vs[i]? = some v → ∃ d, ds[i]? = some d ∧ Rp B F v d
  | _, _, _, _, .nil, e => by simp at e
  | _, _, 0, _, .cons h _, e => by simp at e; subst e; exact ⟨_, rfl, h⟩
  | _, _, i + 1, d, .cons _ t, e => by
    obtain ⟨v, h1, h2⟩ := RpAll.getV (i := i) (v := d) t (by simpa using e)
    exact ⟨v, by simpa using h1, h2⟩
theorem RpAll.append : ∀ {vs us : List V} {ds es : List D}, RpAll B F vs ds → RpAll B F us es → RpAll B F (vs ++ us) (ds ++ es)
  | _, _, _, _, .nil, s => s
  | _, _, _, _, .cons r t, s => .cons r (RpAll.append t s)
theorem RpAll.take : ∀ {vs : List V} {ds : List D} (n : Nat), RpAll B F vs ds → RpAll B F (vs.take n) (ds.take n)
  | _, _, 0, _ => .nil
  | _, _, _ + 1, .nil => .nil
  | _, _, n + 1, .cons r t => .cons r (RpAll.take n t)
theorem RpAll.drop : ∀ {vs : List V} {ds : List D} (n : Nat), RpAll B F vs ds → RpAll B F (vs.drop n) (ds.drop n)
  | _, _, 0, r => r
  | _, _, _ + 1, .nil => .nil
  | _, _, n + 1, .cons _ t => RpAll.drop n t
theorem RpAll.set {v : V} {d : D} (r : Rp B F v d) : ∀ {vs : List V} {ds : List D} (i : Nat), RpAll B F vs ds → RpAll B F (vs.set i v) (ds.set i d)
  | _, _, _, .nil => .nil
  | _, _, 0, .cons _ t => .cons r t
  | _, _, i + 1, .cons q t => .cons q (RpAll.set r i t)
theorem RpAll.reverse {vs : List V} {ds : List D} (h : RpAll B F vs ds) : RpAll B F vs.reverse ds.reverse := by
  induction vs generalizing ds with
  | nil => cases h; exact .nil
  | cons v vs ih =>
    cases h with
    | cons r t =>
      rw [List.reverse_cons, List.reverse_cons]
      exact (ih t).append (.cons r .nil)
theorem RpAll.dropLast {vs : List V} {ds : List D} (h : RpAll B F vs ds) : RpAll B F vs.dropLast ds.dropLast := by
  rw [List.dropLast_eq_take, List.dropLast_eq_take, h.length]
  exact h.take _
theorem RpAll.eraseIdx : ∀ {vs : List V} {ds : List D} (i : Nat), RpAll B F vs ds → RpAll B F (vs.eraseIdx i) (ds.eraseIdx i)
  | _, _, _, .nil => .nil
  | _, _, 0, .cons _ t => t
  | _, _, i + 1, .cons r t => .cons r (RpAll.eraseIdx i t)
theorem RpAll.rep {vs : List V} {ds : List D} (h : RpAll B F vs ds) : ∀ k : Nat, RpAll B F (List.replicate k vs).flatten (List.replicate k ds).flatten
  | 0 => .nil
  | k + 1 => by
    rw [List.replicate_succ, List.replicate_succ, List.flatten_cons, List.flatten_cons]
    exact h.append (RpAll.rep h k)
theorem RpAll.strs : ∀ {vs : List V} {ss : List Str}, RpAll B F vs (ss.map D.str) → vs = ss.map V.str
  | _, [], .nil => rfl
  | _, _ :: _, .cons h t => by cases h; rw [t.strs]; rfl
theorem RpAll.of_strs : ∀ (ss : List Str), RpAll B F (ss.map V.str) (ss.map D.str)
  | [] => .nil
  | s :: ss => .cons (.str s) (RpAll.of_strs ss)
theorem RpAll.ints : ∀ {vs : List V} {ss : List Int}, RpAll B F vs (ss.map D.int) → vs = ss.map V.int
  | _, [], .nil => rfl
  | _, _ :: _, .cons h t => by cases h; rw [t.ints]; rfl
theorem RpAll.of_ints : ∀ (ss : List Int), RpAll B F (ss.map V.int) (ss.map D.int)
  | [] => .nil
  | s :: ss => .cons (.int s) (RpAll.of_ints ss)
theorem RpAll.bls : ∀ {vs : List V} {ss : List Bool}, RpAll B F vs (ss.map D.bl) → vs = ss.map V.bl
  | _, [], .nil => rfl
  | _, _ :: _, .cons h t => by cases h; rw [t.bls]; rfl
theorem RpF.lookup {f : Str} {d : D} : ∀ {fv : List (Str × V)} {fs : List (Str × D)}, RpF B F fv fs → fs.lookup f = some d → ∃ v, fv.lookup f = some v ∧ Rp B F v d
  | _, _, .nil, e => by simp at e
  | _, _, .cons (f := g) h t, e => by
    rw [List.lookup_cons] at e ⊢
    cases q : f == g with
    | true => rw [q] at e; cases e; exact ⟨_, rfl, h⟩
    | false => rw [q] at e; exact RpF.lookup t e
theorem RpF.none {f : Str} : ∀ {fv : List (Str × V)} {fs : List (Str × D)}, RpF B F fv fs → fs.lookup f = none → fv.lookup f = none
  | _, _, .nil, _ => rfl
  | _, _, .cons (f := g) h t, e => by
    rw [List.lookup_cons] at e ⊢
    cases q : f == g with
    | true => rw [q] at e; cases e
    | false => rw [q] at e; exact RpF.none t e
theorem RpF.length : ∀ {vs : List (Str × V)} {ds : List (Str × D)}, RpF B F vs ds → vs.length = ds.length
  | _, _, .nil => rfl
  | _, _, .cons _ t => congrArg (· + 1) t.length
end

/-! ### worlds -/
structure Wd where
  F : Hp
  H : Hp
  ok : Ex F H
structure Wd.le (W W' : Wd) : Prop where
  f : Ex W.F W'.F
  h : Ex W.H W'.H
  n : ∀ a, W.H a ≠ none → W.F a = none → W'.F a = none
theorem Wd.le.refl (W : Wd) : W.le W := ⟨Ex.refl _, Ex.refl _, fun _ _ h => h⟩
theorem ex_some {H H' : Hp} (e : Ex H H') {a : Addr} (h : H a ≠ none) : H' a ≠ none := by
  cases q : H a with
  | none => exact absurd q h
  | some o => rw [e a o q]; exact fun z => by cases z
theorem ex_none {H H' : Hp} (e : Ex H H') {a : Addr} (h : H' a = none) : H a = none := by
  cases q : H a with
  | none => rfl
  | some o => rw [e a o q] at h; cases h
theorem Wd.le.trans {W W' W'' : Wd} (a : W.le W') (b : W'.le W'') : W.le W'' :=
  ⟨a.f.trans b.f, a.h.trans b.h, fun x h1 h2 => b.n x (ex_some a.h h1) (a.n x h1 h2)⟩
theorem upd_ex {H : Hp} {p : Addr} {o : HO} (h : H p = none) : Ex H (upd H p o) := Ex.new h
theorem Wd.fnone (W : Wd) {p : Addr} (h : W.H p = none) : W.F p = none := ex_none W.ok h
theorem upd_upd_ex {F H : Hp} (e : Ex F H) {p : Addr} {o : HO} : Ex (upd F p o) (upd H p o) := fun a u h => by
  by_cases z : a = p
  · subst z; rw [upd_same] at h ⊢; exact h
  · rw [upd_ne z] at h ⊢; exact e a u h
theorem ex_upd {F H : Hp} (e : Ex F H) {p : Addr} {o : HO} (hp : F p = none) : Ex F (upd H p o) := Ex.mut e hp
/-- a new frozen object -/
def Wd.new (W : Wd) (p : Addr) (o : HO) : Wd := ⟨upd W.F p o, upd W.H p o, upd_upd_ex W.ok⟩
theorem Wd.le_new (W : Wd) {p : Addr} {o : HO} (hp : W.H p = none) : W.le (W.new p o) :=
  ⟨upd_ex (W.fnone hp), upd_ex hp, fun a h1 h2 => by
    show upd W.F p o a = none
    rw [upd_ne (fun z => by subst z; exact h1 hp)]; exact h2⟩
/-- a new object that is not frozen -/
def Wd.lay (W : Wd) (p : Addr) (o : HO) (hp : W.F p = none) : Wd := ⟨W.F, upd W.H p o, ex_upd W.ok hp⟩
theorem Wd.le_lay (W : Wd) {p : Addr} {o : HO} (hp : W.H p = none) : W.le (W.lay p o (W.fnone hp)) := ⟨Ex.refl _, upd_ex hp, fun _ _ h => h⟩
/-- what stands at p is frozen -/
def Wd.frz (W : Wd) (p : Addr) (o : HO) (h : W.H p = some o) : Wd := ⟨upd W.F p o, W.H, fun a u q => by
  by_cases z : a = p
  · subst z; rw [upd_same] at q; rw [h]; exact q
  · rw [upd_ne z] at q; exact W.ok a u q⟩

/-! ### the store of mutable objects -/
inductive Ob where
  | lst (ds : List D)
  | dic (t : Bool) (ks : List (D × D))
  | ins (n : Str) (fs : List (Str × D))
abbrev Mu := Addr → Option Ob
/-- a dict of the pairs ks is what is tracked as o at a -/
def DicO (B : Bx) (F : Hp) (a : Addr) (t : Bool) (ks : List (D × D)) (o : Option HO) : Prop := (t = false ∧ ∃ kv ob, o = some (.ext (DkAt B a ob kv)) ∧ RpK B F kv ks) ∨ (t = true ∧ ∃ xs ob, o = some (.ext (RawD B a ob xs)) ∧ RpX B F xs ks)
def ObOk (B : Bx) (F : Hp) (a : Addr) (o : Option HO) : Option Ob → Prop
  | none => True
  | some (.lst ds) => ∃ vs, o = some (.lst vs) ∧ RpAll B F vs ds
  | some (.dic t ks) => DicO B F a t ks o
  | some (.ins n fs) => ∃ dx fv, o = some (.ins (B.cl n) dx fv) ∧ RpF B F fv fs
theorem DicO.mono {B : Bx} {F F' : Hp} {a : Addr} {t : Bool} {ks : List (D × D)} {o : Option HO} (e : Ex F F') (h : DicO B F a t ks o) : DicO B F' a t ks o := by
  rcases h with ⟨h0, kv, ob, h1, h2⟩ | ⟨h0, xs, ob, h1, h2⟩
  · exact .inl ⟨h0, kv, ob, h1, h2.mono e⟩
  · exact .inr ⟨h0, xs, ob, h1, h2.mono e⟩
theorem DicO.some {B : Bx} {F : Hp} {a : Addr} {t : Bool} {ks : List (D × D)} {o : Option HO} (h : DicO B F a t ks o) : o ≠ none := by
  rcases h with ⟨h0, kv, ob, h1, h2⟩ | ⟨h0, xs, ob, h1, h2⟩ <;> rw [h1] <;> exact fun z => by cases z
theorem ObOk.mono {B : Bx} {F F' : Hp} {a : Addr} {o : Option HO} (e : Ex F F') : ∀ {ob : Option Ob}, ObOk B F a o ob → ObOk B F' a o ob
  | none, _ => trivial
  | some (.lst _), ⟨vs, h1, h2⟩ => ⟨vs, h1, h2.mono e⟩
  | some (.dic _ _), h => DicO.mono e h
  | some (.ins _ _), ⟨dx, fv, h1, h2⟩ => ⟨dx, fv, h1, h2.mono e⟩
theorem ObOk.ne {B : Bx} {F : Hp} {a : Addr} {o : Option HO} : ∀ {ob : Ob}, ObOk B F a o (some ob) → o ≠ none
  | .lst _, ⟨vs, h1, h2⟩ => by rw [h1]; exact fun z => by cases z
  | .dic _ _, h => DicO.some h
  | .ins _ _, ⟨dx, fv, h1, h2⟩ => by rw [h1]; exact fun z => by cases z
/-- what is tracked: the world's heap and, beside it, the mutable objects -/
def cat (H m : Hp) : Hp := fun a => match H a with | some o => some o | none => m a
theorem cat_some {H m : Hp} {a : Addr} {o : HO} (h : H a = some o) : cat H m a = some o := by unfold cat; rw [h]
theorem cat_none {H m : Hp} {a : Addr} (h : H a = none) : cat H m a = m a := by unfold cat; rw [h]
theorem cat_ex (H m : Hp) : Ex H (cat H m) := fun _ _ h => cat_some h
theorem cat_new {H m : Hp} {a : Addr} (h : cat H m a = none) : H a = none ∧ m a = none := by
  cases q : H a with
  | none => exact ⟨rfl, (cat_none q).symm.trans h⟩
  | some o => rw [cat_some q] at h; cases h
theorem cat_upd {H m : Hp} {a : Addr} {o : HO} : upd (cat H m) a o = cat (upd H a o) m := by
  funext b
  by_cases z : b = a
  · subst z; rw [upd_same, cat_some upd_same]
  · rw [upd_ne z]; unfold cat; rw [upd_ne z]
theorem cat_updm {H m : Hp} {a : Addr} {o : HO} (h : H a = none) : upd (cat H m) a o = cat H (upd m a o) := by
  funext b
  by_cases z : b = a
  · subst z; rw [upd_same, cat_none h, upd_same]
  · rw [upd_ne z]; unfold cat; rw [upd_ne z]
structure MOk (B : Bx) (W : Wd) (M : Mu) (m : Hp) : Prop where
  dj : ∀ a, W.H a ≠ none → m a = none
  ok : ∀ a, ObOk B W.F a (m a) (M a)
section
variable {B : Bx} {W W' : Wd} {M M' : Mu} {m m' : Hp}
theorem MOk.weak (h : MOk B W M' m) (e : ∀ a ob, M a = some ob → M' a = some ob) : MOk B W M m := ⟨h.dj, fun a => by
  cases q : M a with
  | none => trivial
  | some ob => have := h.ok a; rw [e a ob q] at this; exact this⟩
theorem MOk.hn (h : MOk B W M m) {a : Addr} {ob : Ob} (e : M a = some ob) : W.H a = none := by
  have q := h.ok a
  rw [e] at q
  cases z : W.H a with
  | none => rfl
  | some o => exact absurd (h.dj a (by rw [z]; exact fun y => by cases y)) q.ne
/-- the world grows by an object at a free place -/
theorem MOk.new (h : MOk B W M m) {p : Addr} {o : HO} (hp : cat W.H m p = none) : MOk B (W.new p o) M m := by
  obtain ⟨h1, h2⟩ := cat_new hp
  refine ⟨fun a ha => ?_, fun a => (h.ok a).mono (upd_ex (W.fnone h1))⟩
  by_cases z : a = p
  · subst z; exact h2
  · refine h.dj a ?_
    have : (W.new p o).H a = W.H a := upd_ne z
    rw [← this]; exact ha
theorem MOk.lay (h : MOk B W M m) {p : Addr} {o : HO} (hp : cat W.H m p = none) : MOk B (W.lay p o (W.fnone (cat_new hp).1)) M m := by
  obtain ⟨h1, h2⟩ := cat_new hp
  refine ⟨fun a ha => ?_, fun a => h.ok a⟩
  by_cases z : a = p
  · subst z; exact h2
  · refine h.dj a ?_
    have : (W.lay p o (W.fnone h1)).H a = W.H a := upd_ne z
    rw [← this]; exact ha
theorem MOk.frz (h : MOk B W M m) {p : Addr} {o : HO} (hp : W.H p = some o) (hf : W.F p = none) : MOk B (W.frz p o hp) M m := ⟨h.dj, fun a => (h.ok a).mono (upd_ex hf)⟩
def updM (M : Mu) (a : Addr) (o : Ob) : Mu := fun b => if b = a then some o else M b
theorem updM_same {a : Addr} {o : Ob} : updM M a o a = some o := by unfold updM; rw [if_pos rfl]
theorem updM_ne {a b : Addr} {o : Ob} (h : b ≠ a) : updM M a o b = M b := by unfold updM; rw [if_neg h]
/-- a store at a, which the world does not track -/
theorem MOk.put (h : MOk B W M m) {a : Addr} {ob : Ob} {o : HO} (ha : W.H a = none) (ho : ObOk B W.F a (some o) (some ob)) : MOk B W (updM M a ob) (upd m a o) := ⟨fun b hb => by
    have z : b ≠ a := fun z => by subst z; exact hb ha
    rw [upd_ne z]; exact h.dj b hb, fun b => by
    by_cases z : b = a
    · subst z; rw [upd_same, updM_same]; exact ho
    · rw [upd_ne z, updM_ne z]; exact h.ok b⟩
end
/-- what a pointer points to -/
def drfO (a : Addr) : Option Ob → D
  | some (.lst ds) => .lst ds
  | some (.dic t ks) => .dic t ks
  | some (.ins n fs) => .obj n fs
  | none => .ref a
def drf (M : Mu) : D → D
  | .ref a => drfO a (M a)
  | d => d

/-! ### what may be read -/
def RpR (B : Bx) (F H : Hp) (v : V) : D → Prop
  | .lst ds => ∃ a vs, v = .ref a ∧ SqL B.K H a vs ∧ RpAll B F vs ds
  | .obj n fs => ∃ a dx fv, v = .ref a ∧ H a = some (.ins (B.cl n) dx fv) ∧ RpF B F fv fs
  | .dic t ks => ∃ a, v = .ref a ∧ DicO B F a t ks (H a)
  | d => Rp B F v d
section
variable {B : Bx} {F F' H H' : Hp} {v : V} {d : D}
theorem Rp.r (ok : Ex F H) (h : Rp B F v d) : RpR B F H v d := by
  cases h with
  | lst h a => exact ⟨_, _, rfl, Evl.ex_l ok h, a⟩
  | obj h a => exact ⟨_, _, _, rfl, ok _ _ h, a⟩
  | dic h a => exact ⟨_, rfl, .inl ⟨rfl, _, _, ok _ _ h, a⟩⟩
  | dit h a => exact ⟨_, rfl, .inr ⟨rfl, _, _, ok _ _ h, a⟩⟩
  | non => exact .non
  | bl b => exact .bl b
  | int i => exact .int i
  | str x => exact .str x
  | ty n => exact .ty n
  | cls n => exact .cls n
  | ref a => exact .ref a
  | tup h a => exact .tup h a
  | exc h => exact .exc h
theorem RpR.cases' (P : Prop) (h : RpR B F H v d) (h1 : Rp B F v d → P) (h2 : ∀ ds a vs, d = .lst ds → v = .ref a → SqL B.K H a vs → RpAll B F vs ds → P)
    (h3 : ∀ n fs a dx fv, d = .obj n fs → v = .ref a → H a = some (.ins (B.cl n) dx fv) → RpF B F fv fs → P) (h4 : ∀ t ks a, d = .dic t ks → v = .ref a → DicO B F a t ks (H a) → P) : P := by
  cases d with
  | lst ds => obtain ⟨a, vs, e1, e2, e3⟩ := h; exact h2 ds a vs rfl e1 e2 e3
  | obj C fs => obtain ⟨a, dx, vs, e1, e2, e3⟩ := h; exact h3 C fs a dx vs rfl e1 e2 e3
  | dic t ks => obtain ⟨a, e1, e2⟩ := h; exact h4 t ks a rfl e1 e2
  | non => exact h1 h
  | bl _ => exact h1 h
  | int _ => exact h1 h
  | str _ => exact h1 h
  | ty _ => exact h1 h
  | cls _ => exact h1 h
  | ref _ => exact h1 h
  | tup _ => exact h1 h
  | exc _ => exact h1 h
theorem DicO.ex {a : Addr} {t : Bool} {ks : List (D × D)} (h : DicO B F a t ks (H a)) (e : Ex H H') : DicO B F a t ks (H' a) := by
  rcases h with ⟨h0, kv, ob, h1, h2⟩ | ⟨h0, xs, ob, h1, h2⟩
  · exact .inl ⟨h0, kv, ob, e _ _ h1, h2⟩
  · exact .inr ⟨h0, xs, ob, e _ _ h1, h2⟩
theorem RpR.mono (h : RpR B F H v d) (f : Ex F F') (ok : Ex F' H') (e : Ex H H') : RpR B F' H' v d :=
  h.cases' _ (fun h => (h.mono f).r ok) (fun ds a vs e0 e1 e2 e3 => by subst e0; exact ⟨a, vs, e1, Evl.ex_l e e2, e3.mono f⟩)
    (fun n fs a dx fv e0 e1 e2 e3 => by subst e0; exact ⟨a, dx, fv, e1, e _ _ e2, e3.mono f⟩) fun t ks a e0 e1 e2 => by subst e0; exact ⟨a, e1, (e2.mono f).ex e⟩
theorem RpR.le {W W' : Wd} (h : RpR B W.F W.H v d) (le : W.le W') : RpR B W'.F W'.H v d := h.mono le.f W'.ok le.h
theorem Rp.rd {W : Wd} (h : Rp B W.F v d) : RpR B W.F W.H v d := h.r W.ok
theorem Rp.le {W W' : Wd} (h : Rp B W.F v d) (le : W.le W') : Rp B W'.F v d := h.mono le.f
/-- pointers followed -/
theorem RpR.drf {W : Wd} {M : Mu} {m : Hp} (h : RpR B W.F W.H v d) (k : MOk B W M m) : RpR B W.F (cat W.H m) v (Z.drf M d) := by
  have e := cat_ex W.H m
  cases d with
  | ref a =>
    cases h with
    | ref _ =>
      have q := k.ok a
      show RpR B W.F (cat W.H m) (.ref a) (drfO a (M a))
      cases z : M a with
      | none => exact Rp.ref a
      | some ob =>
        have hn := k.hn z
        rw [z] at q
        cases ob with
        | lst ds => obtain ⟨vs, q1, q2⟩ := q; exact ⟨a, vs, rfl, SqL.of ((cat_none hn).trans q1), q2⟩
        | dic t ks => exact ⟨a, rfl, by rw [cat_none hn]; exact q⟩
        | ins n fs => obtain ⟨dx, fv, q1, q2⟩ := q; exact ⟨a, dx, fv, rfl, (cat_none hn).trans q1, q2⟩
  | non => exact h
  | bl _ => exact h
  | int _ => exact h
  | str _ => exact h
  | ty _ => exact h
  | cls _ => exact h
  | tup _ => exact h
  | exc _ => exact h
  | lst ds => exact RpR.mono h (Ex.refl _) (W.ok.trans e) e
  | obj n ds => exact RpR.mono h (Ex.refl _) (W.ok.trans e) e
  | dic t ks => exact RpR.mono h (Ex.refl _) (W.ok.trans e) e
end

/-! ### slots -/
inductive Ent where
  | un
  | dat (d : D)
  | own (ds : List D)
  | dk (t : Bool) (ks : List (D × D))
  | bor (d : D)
def Ent.ownd : Ent → Bool
  | .own _ => true
  | .dk _ _ => true
  | _ => false
def ga : List Ent → Nat → Ent
  | [], _ => .un
  | e :: _, 0 => e
  | _ :: r, n + 1 => ga r n
theorem ga_set : ∀ (ρ : List Ent) (i j : Nat) (e : Ent), ga (ρ.set i e) j = if i = j then (if i < ρ.length then e else .un) else ga ρ j
  | [], i, j, e => by simp [ga]
  | x :: r, 0, 0, e => by simp [ga]
  | x :: r, 0, j + 1, e => by simp [ga]
  | x :: r, i + 1, 0, e => by simp [ga]
  | x :: r, i + 1, j + 1, e => by
    show ga (r.set i e) j = _
    rw [ga_set r i j e]
    simp [ga]
theorem ga_lt : ∀ {ρ : List Ent} {i : Nat}, ga ρ i ≠ .un → i < ρ.length
  | [], i, h => absurd rfl h
  | x :: r, 0, h => by simp
  | x :: r, i + 1, h => by
    have := ga_lt (ρ := r) (i := i) h
    simp; omega

def EntOk (B : Bx) (W0 W : Wd) (σ : L2.St) (i : Nat) (a : Addr) : Ent → Prop
  | .un => True
  | .dat d => ∃ v, σ[i]? = some (some v) ∧ Rp B W.F v d
  | .own ds => ∃ vs, σ[i]? = some (some (.ref a)) ∧ W.H a = some (.lst vs) ∧ W.F a = none ∧ W0.H a = none ∧ RpAll B W.F vs ds
  | .dk t ks => σ[i]? = some (some (.ref a)) ∧ DicO B W.F a t ks (W.H a) ∧ W.F a = none ∧ W0.H a = none
  | .bor d => ∃ v, σ[i]? = some (some v) ∧ (RpR B W.F W0.H v d ∨ Rp B W.F v d)
structure Rel (B : Bx) (W0 W : Wd) (σ : L2.St) (ρ : List Ent) : Prop where
  le : W0.le W
  len : σ.length = ρ.length
  ex : ∃ ad : Nat → Addr, (∀ i j, i ≠ j → (ga ρ i).ownd = true → (ga ρ j).ownd = true → ad i ≠ ad j) ∧ ∀ i, EntOk B W0 W σ i (ad i) (ga ρ i)

section
variable {B : Bx} {W0 W W' : Wd} {σ : L2.St} {ρ : List Ent}
theorem RpR.monoF {F F' H : Hp} {v : V} {d : D} (h : RpR B F H v d) (f : Ex F F') : RpR B F' H v d := by
  cases d with
  | lst ds => obtain ⟨a, vs, h1, h2, h3⟩ := h; exact ⟨a, vs, h1, h2, h3.mono f⟩
  | obj C fs => obtain ⟨a, dx, vs, h1, h2, h3⟩ := h; exact ⟨a, dx, vs, h1, h2, h3.mono f⟩
  | dic t ks => obtain ⟨a, h1, h2⟩ := h; exact ⟨a, h1, h2.mono f⟩
  | non => exact Rp.mono f h
  | bl _ => exact Rp.mono f h
  | int _ => exact Rp.mono f h
  | str _ => exact Rp.mono f h
  | ty _ => exact Rp.mono f h
  | cls _ => exact Rp.mono f h
  | ref _ => exact Rp.mono f h
  | tup _ => exact Rp.mono f h
  | exc _ => exact Rp.mono f h
theorem EntOk.mono (le : W.le W') {i : Nat} {a : Addr} {e : Ent} (h : EntOk B W0 W σ i a e) : EntOk B W0 W' σ i a e := by
  cases e with
  | un => trivial
  | dat d => obtain ⟨v, h1, h2⟩ := h; exact ⟨v, h1, h2.mono le.f⟩
  | own ds =>
    obtain ⟨vs, h1, h2, h3, h4, h5⟩ := h
    exact ⟨vs, h1, le.h _ _ h2, le.n _ (by rw [h2]; exact fun z => by cases z) h3, h4, h5.mono le.f⟩
  | bor d =>
    obtain ⟨v, h1, h2⟩ := h
    exact ⟨v, h1, h2.imp (fun z => z.monoF le.f) fun z => z.mono le.f⟩
  | dk t ks =>
    obtain ⟨h1, h2, h3, h4⟩ := h
    exact ⟨h1, (h2.mono le.f).ex le.h, le.n _ h2.some h3, h4⟩
theorem Rel.mono (h : Rel B W0 W σ ρ) (le : W.le W') : Rel B W0 W' σ ρ := by
  obtain ⟨h1, h2, ad, h3, h4⟩ := h
  exact ⟨h1.trans le, h2, ad, h3, fun i => (h4 i).mono le⟩
theorem EntOk.slot {σ' : L2.St} {i : Nat} {a : Addr} {e : Ent} (h : EntOk B W0 W σ i a e) (q : σ'[i]? = σ[i]?) : EntOk B W0 W σ' i a e := by
  cases e with
  | un => trivial
  | dat d => obtain ⟨v, h1, h2⟩ := h; exact ⟨v, q.trans h1, h2⟩
  | own ds => obtain ⟨vs, h1, h2⟩ := h; exact ⟨vs, q.trans h1, h2⟩
  | bor ds => obtain ⟨b, h1, h2⟩ := h; exact ⟨b, q.trans h1, h2⟩
  | dk t ds => obtain ⟨h1, h2⟩ := h; exact ⟨q.trans h1, h2⟩
theorem EntOk.there {i : Nat} {a : Addr} {e : Ent} (h : EntOk B W0 W σ i a e) (o : e.ownd = true) : W.H a ≠ none := by
  cases e with
  | un => cases o
  | dat d => cases o
  | bor d => cases o
  | own ds => obtain ⟨vs, _, q, _⟩ := h; rw [q]; exact fun z => by cases z
  | dk t ds => obtain ⟨_, q, _⟩ := h; exact q.some
/-- the general store: slot i gets v, told as e, which is owned at a new address or not at all -/
theorem Rel.store (h : Rel B W0 W σ ρ) (le : W.le W') {i : Nat} {v : Option V} {e : Ent} {b : Addr}
    (he : i < ρ.length → EntOk B W0 W' (σ.set i v) i b e) (hb : e.ownd = true → W.H b = none) : Rel B W0 W' (σ.set i v) (ρ.set i e) := by
  obtain ⟨h1, h2, ad, h3, h4⟩ := h
  have old : ∀ j, (ga ρ j).ownd = true → W.H (ad j) ≠ none := fun j hj => (h4 j).there hj
  refine ⟨h1.trans le, by rw [List.length_set, List.length_set, h2], fun j => if j = i then b else ad j, fun j k hjk hj hk => ?_, fun j => ?_⟩
  · rw [ga_set] at hj hk
    dsimp only
    by_cases z1 : j = i
    · have z2 : ¬ k = i := fun z => hjk (z1.trans z.symm)
      rw [if_pos z1, if_neg z2]
      rw [if_pos z1.symm] at hj
      rw [if_neg (Ne.symm z2)] at hk
      split at hj
      · intro z; exact old k hk (by rw [← z]; exact hb hj)
      · cases hj
    · by_cases z2 : k = i
      · rw [if_neg z1, if_pos z2]
        rw [if_pos z2.symm] at hk
        rw [if_neg (Ne.symm z1)] at hj
        split at hk
        · intro z; exact old j hj (by rw [z]; exact hb hk)
        · cases hk
      · rw [if_neg z1, if_neg z2]
        rw [if_neg (Ne.symm z1)] at hj
        rw [if_neg (Ne.symm z2)] at hk
        exact h3 j k hjk hj hk
  · rw [ga_set]
    dsimp only
    by_cases z : i = j
    · subst z
      rw [if_pos rfl, if_pos rfl]
      split
      · rename_i hl; exact he hl
      · trivial
    · rw [if_neg z, if_neg (Ne.symm z)]
      exact ((h4 j).mono le).slot (List.getElem?_set_ne z)
theorem Rel.set (h : Rel B W0 W σ ρ) {i : Nat} {v : V} {d : D} (hv : Rp B W.F v d) : Rel B W0 W (σ.set i (some v)) (ρ.set i (.dat d)) :=
  h.store (b := 0) (Wd.le.refl W) (fun hl => ⟨v, List.getElem?_set_self (by rw [h.len]; exact hl), hv⟩) fun z => by cases z
theorem Rel.unset (h : Rel B W0 W σ ρ) {i : Nat} : Rel B W0 W (σ.set i none) (ρ.set i .un) :=
  h.store (b := 0) (Wd.le.refl W) (fun _ => trivial) fun z => by cases z
theorem Rel.dat (h : Rel B W0 W σ ρ) {i : Nat} {d : D} (e : ga ρ i = .dat d) : ∃ v, σ[i]? = some (some v) ∧ Rp B W.F v d := by
  obtain ⟨_, _, ad, _, h4⟩ := h
  have q := h4 i
  rw [e] at q
  exact q
end

/-! ### re-anchoring -/
def reH (W0 W1 : Wd) : Hp := fun a => match W0.H a with | some o => some o | none => W1.F a
theorem reH_some {W0 W1 : Wd} {a : Addr} {o : HO} (h : W0.H a = some o) : reH W0 W1 a = some o := by unfold reH; rw [h]
theorem reH_none {W0 W1 : Wd} {a : Addr} (h : W0.H a = none) : reH W0 W1 a = W1.F a := by unfold reH; rw [h]
def Wd.re (W0 W1 : Wd) (le : W0.le W1) : Wd := ⟨W1.F, reH W0 W1, fun a o h => by
  cases q : W0.H a with
  | none => rw [reH_none q]; exact h
  | some o' =>
    rw [reH_some q]
    have e1 := le.h a o' q
    have e2 := W1.ok a o h
    rw [e1] at e2; exact e2⟩
section
variable {B : Bx} {W0 W1 W : Wd} {σ : L2.St} {ρ : List Ent}
theorem Wd.re_le (le : W0.le W1) : (W0.re W1 le).le W1 := ⟨Ex.refl _, fun a o h => by
    have h : reH W0 W1 a = some o := h
    cases q : W0.H a with
    | none => rw [reH_none q] at h; exact W1.ok a o h
    | some o' => rw [reH_some q] at h; cases h; exact le.h a _ q, fun _ _ h => h⟩
theorem Wd.le_re (le : W0.le W1) : Ex W0.H (W0.re W1 le).H := fun a o h => reH_some h
theorem Rel.re (h : Rel B W0 W1 σ ρ) : Rel B (W0.re W1 h.le) W1 σ ρ := by
  refine ⟨Wd.re_le _, h.len, ?_⟩
  obtain ⟨le, _, ad, h3, h4⟩ := h
  refine ⟨ad, h3, fun i => ?_⟩
  have q := h4 i
  have own : ∀ a, W0.H a = none → W1.F a = none → (W0.re W1 le).H a = none := fun a h1 h2 => (reH_none h1).trans h2
  cases z : ga ρ i with
  | un => trivial
  | dat d => rw [z] at q; exact q
  | own ds => rw [z] at q; obtain ⟨vs, q1, q2, q3, q4, q5⟩ := q; exact ⟨vs, q1, q2, q3, own _ q4 q3, q5⟩
  | bor ds =>
    rw [z] at q
    obtain ⟨b, q1, q2⟩ := q
    refine ⟨b, q1, q2.imp (fun z => ?_) id⟩
    exact z.mono (Ex.refl _) (W0.re W1 le).ok (Wd.le_re le)
  | dk t ds => rw [z] at q; obtain ⟨q1, q2, q3, q4⟩ := q; exact ⟨q1, q2, q3, own _ q4 q3⟩
theorem Wd.re_back {le : W0.le W1} (h : (W0.re W1 le).le W) : W0.le W :=
  ⟨le.f.trans h.f, (Wd.le_re le).trans h.h, fun a h1 h2 => h.n a (ex_some (Wd.le_re le) h1) (le.n a h1 h2)⟩
theorem Rel.back {le : W0.le W1} (h : Rel B (W0.re W1 le) W σ ρ) : Rel B W0 W σ ρ := by
  refine ⟨Wd.re_back h.le, h.len, ?_⟩
  obtain ⟨le', _, ad, h3, h4⟩ := h
  refine ⟨ad, h3, fun i => ?_⟩
  have q := h4 i
  have own : ∀ a, (W0.re W1 le).H a = none → W0.H a = none := fun a h1 => ex_none (Wd.le_re le) h1
  have at' : ∀ (a : Addr) (o : HO), (W0.re W1 le).H a = some o → W0.H a = some o ∨ W.F a = some o := fun a o r => by
    cases y : W0.H a with
    | none => exact .inr (le'.f a _ ((reH_none (W1 := W1) y).symm.trans r))
    | some o' => have := (reH_some (W1 := W1) y).symm.trans r; cases this; exact .inl rfl
  cases z : ga ρ i with
  | un => trivial
  | dat d => rw [z] at q; exact q
  | own ds => rw [z] at q; obtain ⟨vs, q1, q2, q3, q4, q5⟩ := q; exact ⟨vs, q1, q2, q3, own _ q4, q5⟩
  | bor d =>
    rw [z] at q
    obtain ⟨b, q1, q2⟩ := q
    refine ⟨b, q1, ?_⟩
    rcases q2 with q2 | q2
    · refine q2.cases' _ (fun h => .inr h) (fun ds a vs e0 e1 e2 e3 => ?_) (fun n fs a dx fv e0 e1 e2 e3 => ?_) fun t ks a e0 e1 e2 => ?_
      · subst e0; subst e1
        have rd : ∀ u, Rd (W0.re W1 le).H a u → Rd W0.H a u ∨ Rd W.F a u := fun u r => by
          rcases r with r | ⟨o, r⟩
          · exact (at' _ _ r).imp .inl .inl
          · exact (at' _ _ r).imp (fun y => .inr ⟨o, y⟩) fun y => .inr ⟨o, y⟩
        rcases e2 with e2 | e2
        · rcases rd _ e2 with y | y
          · exact .inl ⟨a, vs, rfl, .inl y, e3⟩
          · exact .inr (.lst (.inl y) e3)
        · exact .inl ⟨a, vs, rfl, .inr e2, e3⟩
      · subst e0; subst e1
        rcases at' _ _ e2 with y | y
        · exact .inl ⟨a, dx, fv, rfl, y, e3⟩
        · exact .inr (.obj y e3)
      · subst e0; subst e1
        rcases e2 with ⟨rfl, kv, ob, y1, y2⟩ | ⟨rfl, xs, ob, y1, y2⟩
        · rcases at' _ _ y1 with y | y
          · exact .inl ⟨a, rfl, .inl ⟨rfl, kv, ob, y, y2⟩⟩
          · exact .inr (.dic y y2)
        · rcases at' _ _ y1 with y | y
          · exact .inl ⟨a, rfl, .inr ⟨rfl, xs, ob, y, y2⟩⟩
          · exact .inr (.dit y y2)
    · exact .inr q2
  | dk t ds => rw [z] at q; obtain ⟨q1, q2, q3, q4⟩ := q; exact ⟨q1, q2, q3, own _ q4⟩
end
end Z

namespace Z
open PySem PySem.Spec PyProof.Rows L2
open Evl (Ex)

abbrev DTE := List Ent → Mu → (D → Mu → Prop) → (Str → Mu → Prop) → Prop
abbrev DTA := List Ent → Mu → (List D → Mu → Prop) → (Str → Mu → Prop) → Prop
abbrev DTT := List Ent → Mu → (Bool → Mu → Prop) → (Str → Mu → Prop) → Prop
structure DEnds where
  nx : List Ent → Mu → Prop
  rt : D → Mu → Prop
  bk : List Ent → Mu → Prop
  ct : List Ent → Mu → Prop
  ex : Str → List Ent → Mu → Prop
abbrev DTS := DEnds → List Ent → Mu → Prop
/-- a def's promise over data: the arguments, the store, what is wanted of the answer, what of an exception's class -/
abbrev SpM := List D → Mu → (D → Mu → Prop) → (Str → Mu → Prop) → Prop
/-- .. of one that leaves the store -/
abbrev SpD := List D → (D → Prop) → (Str → Prop) → Prop
def pur (sp : SpD) : SpM := fun ds M Q E => sp ds (fun d => Q d M) (fun C => E C M)
abbrev OpD := D → D → (D → Prop) → Prop

abbrev bx (X : Cx) : Bx := ⟨X.prog, X.w, X.K, X.mg⟩
theorem cat_q {H m : Hp} {a : Addr} {o : HO} {P : Hp → Prop} (h : P (cat (upd H a o) m)) : P (upd (cat H m) a o) := by rw [cat_upd]; exact h
theorem cat_qm {H m : Hp} {a : Addr} {o : HO} {P : Hp → Prop} (hn : H a = none) (h : P (cat H (upd m a o))) : P (upd (cat H m) a o) := by rw [cat_updm hn]; exact h

inductive ArgsOk (B : Bx) (W : Wd) : List Bool → List V → List D → Prop
  | nil : ArgsOk B W [] [] []
  | dat {ms : List Bool} {v : V} {vs : List V} {d : D} {ds : List D} : Rp B W.F v d → ArgsOk B W ms vs ds → ArgsOk B W (false :: ms) (v :: vs) (d :: ds)
  | bor {ms : List Bool} {v : V} {vs : List V} {d : D} {ds : List D} : RpR B W.F W.H v d → ArgsOk B W ms vs ds → ArgsOk B W (true :: ms) (v :: vs) (d :: ds)
/-- all are read -/
inductive RpRs (B : Bx) (F H : Hp) : List V → List D → Prop
  | nil : RpRs B F H [] []
  | cons {v : V} {vs : List V} {d : D} {ds : List D} : RpR B F H v d → RpRs B F H vs ds → RpRs B F H (v :: vs) (d :: ds)
section
variable {B : Bx} {W W' : Wd}
theorem ArgsOk.length {ms : List Bool} {vs : List V} {ds : List D} (h : ArgsOk B W ms vs ds) : vs.length = ds.length := by
  induction h with
  | nil => rfl
  | dat _ _ ih => exact congrArg (· + 1) ih
  | bor _ _ ih => exact congrArg (· + 1) ih
theorem ArgsOk.all {ms : List Bool} {vs : List V} {ds : List D} (h : ArgsOk B W ms vs ds) (hm : ms.any id = false) : RpAll B W.F vs ds := by
  induction h with
  | nil => exact .nil
  | dat r _ ih => exact .cons r (ih (by simpa using hm))
  | bor r _ ih => simp at hm
theorem ArgsOk.reads {ms : List Bool} {vs : List V} {ds : List D} {M : Mu} {m : Hp} (h : ArgsOk B W ms vs ds) (k : MOk B W M m) : RpRs B W.F (cat W.H m) vs (ds.map (drf M)) := by
  induction h with
  | nil => exact .nil
  | dat r _ ih => exact .cons (r.rd.drf k) ih
  | bor r _ ih => exact .cons (r.drf k) ih
theorem ArgsOk.le {ms : List Bool} {vs : List V} {ds : List D} (h : ArgsOk B W ms vs ds) (le : W.le W') : ArgsOk B W' ms vs ds := by
  induction h with
  | nil => exact .nil
  | dat r _ ih => exact .dat (r.le le) ih
  | bor r _ ih => exact .bor (r.le le) ih
theorem RpRs.length {F H : Hp} {vs : List V} {ds : List D} (h : RpRs B F H vs ds) : vs.length = ds.length := by
  induction h with
  | nil => rfl
  | cons _ _ ih => exact congrArg (· + 1) ih
end

/-! ### refinement of readings by conditions over data -/
abbrev ExK (B : Bx) (wx : WX) (W : Wd) (σ : L2.St) (Ed : Str → Mu → Prop) : Prop := ∀ C W' m' M', Ed C M' → W.le W' → MOk B W' M' m' → wx (.ref (B.cl C)) none σ (cat W'.H m')
theorem ExK.up {B : Bx} {wx : WX} {W W' : Wd} {σ : L2.St} {Ed : Str → Mu → Prop} (h : ExK B wx W σ Ed) (le : W.le W') : ExK B wx W' σ Ed := fun C W2 m2 M2 q l k => h C W2 m2 M2 q (le.trans l) k
def RfE (B : Bx) (wx : WX) (t : TE) (T : DTE) : Prop := ∀ (W0 W : Wd) (m : Hp) (σ : L2.St) (ρ : List Ent) (M : Mu) (Q : VK) (Qd : D → Mu → Prop) (Ed : Str → Mu → Prop), Rel B W0 W σ ρ → MOk B W M m → T ρ M Qd Ed →
  (∀ d v W' m' M', Qd d M' → W.le W' → MOk B W' M' m' → Rp B W'.F v d → Q v (cat W'.H m')) → ExK B wx W σ Ed → t σ (cat W.H m) Q
def RfR (B : Bx) (wx : WX) (t : TE) (T : DTE) : Prop := ∀ (W0 W : Wd) (m : Hp) (σ : L2.St) (ρ : List Ent) (M : Mu) (Q : VK) (Qd : D → Mu → Prop) (Ed : Str → Mu → Prop), Rel B W0 W σ ρ → MOk B W M m → T ρ M Qd Ed →
  (∀ d v W' m' M', Qd d M' → W.le W' → MOk B W' M' m' → RpR B W'.F W'.H v d → Q v (cat W'.H m')) → ExK B wx W σ Ed → t σ (cat W.H m) Q
def RfM (B : Bx) (wx : WX) (ms : List Bool) (t : TA) (T : DTA) : Prop := ∀ (W0 W : Wd) (m : Hp) (σ : L2.St) (ρ : List Ent) (M : Mu) (Q : List V → Hp → Prop) (Qd : List D → Mu → Prop) (Ed : Str → Mu → Prop), Rel B W0 W σ ρ → MOk B W M m → T ρ M Qd Ed →
  (∀ ds vs W' m' M', Qd ds M' → W.le W' → MOk B W' M' m' → ArgsOk B W' ms vs ds → Q vs (cat W'.H m')) → ExK B wx W σ Ed → t σ (cat W.H m) Q
/-- a new list that is not frozen -/
def RfN (B : Bx) (wx : WX) (t : TE) (T : DTA) : Prop := ∀ (W0 W : Wd) (m : Hp) (σ : L2.St) (ρ : List Ent) (M : Mu) (Q : VK) (Qd : List D → Mu → Prop) (Ed : Str → Mu → Prop), Rel B W0 W σ ρ → MOk B W M m → T ρ M Qd Ed →
  (∀ ds p vs W' m' M', Qd ds M' → W.le W' → MOk B W' M' m' → W.H p = none → W'.H p = some (.lst vs) → W'.F p = none → RpAll B W'.F vs ds → Q (.ref p) (cat W'.H m')) → ExK B wx W σ Ed → t σ (cat W.H m) Q
def RfT (B : Bx) (wx : WX) (t : TT) (T : DTT) : Prop := ∀ (W0 W : Wd) (m : Hp) (σ : L2.St) (ρ : List Ent) (M : Mu) (Q : Bool → Hp → Prop) (Qd : Bool → Mu → Prop) (Ed : Str → Mu → Prop), Rel B W0 W σ ρ → MOk B W M m → T ρ M Qd Ed →
  (∀ b W' m' M', Qd b M' → W.le W' → MOk B W' M' m' → Q b (cat W'.H m')) → ExK B wx W σ Ed → t σ (cat W.H m) Q
def DE (X : Cx) (wx : WX) (e : Expr) (T : DTE) : Prop := ∃ t, PE X e t ∧ RfE (bx X) wx t T
def DR (X : Cx) (wx : WX) (e : Expr) (T : DTE) : Prop := ∃ t, PE X e t ∧ RfR (bx X) wx t T
def DN (X : Cx) (wx : WX) (e : Expr) (T : DTA) : Prop := ∃ t, PE X e t ∧ RfN (bx X) wx t T
def DM (X : Cx) (wx : WX) (ms : List Bool) (es : List Expr) (T : DTA) : Prop := ∃ t, PA X es t ∧ RfM (bx X) wx ms t T
def DT (X : Cx) (wx : WX) (e : Expr) (T : DTT) : Prop := ∃ t, PT X e t ∧ RfT (bx X) wx t T
/-- a test whatever its whole is -/
def DW (X : Cx) (wx : WX) (e : Expr) (T : DTT) : Prop := ∃ t, PW X e t ∧ RfT (bx X) wx t T

section
variable {X : Cx} {wx : WX} {e a b c : Expr} {es : List Expr} {T Ta Tb Tc : DTE} {pos : Pos}
theorem DE.r (h : DE X wx e T) : DR X wx e T := by
  obtain ⟨t, p, r⟩ := h
  exact ⟨t, p, fun W0 W m σ ρ M Q Qd Ed R k h1 h2 h3 => r W0 W m σ ρ M Q Qd Ed R k h1 (fun d v W' m' M' q le k' hv => h2 d v W' m' M' q le k' hv.rd) h3⟩
/-- a new list, frozen -/
def dLstOf (T : DTA) : DTE := fun ρ M Q E => T ρ M (fun ds => Q (.lst ds)) E
theorem le_frz {W W' : Wd} {p : Addr} {o : HO} (le : W.le W') (hn : W.H p = none) (hp : W'.H p = some o) : W.le (W'.frz p o hp) := ⟨fun a o z => by
      show upd W'.F p _ a = some o
      rw [upd_ne (fun y => by subst y; rw [W.fnone hn] at z; cases z)]; exact le.f a o z, le.h, fun a z1 z2 => by
      show upd W'.F p _ a = none
      rw [upd_ne (fun y => by subst y; exact z1 hn)]; exact le.n a z1 z2⟩
theorem DN.fz {T : DTA} (h : DN X wx e T) : DE X wx e (dLstOf T) := by
  obtain ⟨t, p, r⟩ := h
  refine ⟨t, p, fun W0 W m σ ρ M Q Qd Ed R k h1 h2 h3 => r W0 W m σ ρ M Q _ Ed R k h1 (fun ds p vs W' m' M' q le k' hn hp hf hv => ?_) h3⟩
  exact h2 (.lst ds) (.ref p) (W'.frz p _ hp) m' M' q (le_frz le hn hp) (k'.frz hp hf) (.lst (SqL.of (upd_same (H := W'.F))) (hv.mono (upd_ex hf)))
/-- a new list, put into the store: what is told is where it stands -/
def dLstM (T : DTA) : DTE := fun ρ M Q E => T ρ M (fun ds M' => ∀ a, M' a = none → Q (.ref a) (updM M' a (.lst ds))) E

/-! ### names, constants -/
def dVar (i : Nat) : DTE := fun ρ M Q _ => match ga ρ i with | .dat d => Q d M | _ => False
def dVarR (i : Nat) : DTE := fun ρ M Q _ => match ga ρ i with
  | .dat d => Q d M
  | .own ds => Q (.lst ds) M
  | .bor d => Q d M
  | .dk t ks => Q (.dic t ks) M
  | .un => False
def dC (d : D) : DTE := fun _ M Q _ => Q d M
theorem de_var (i : Nat) {x : Str} (hN : X.N[i]? = some x := by rfl) (hv : Vis X.env.scope x := by first | exact Or.inl rfl | exact Or.inr (Or.inl rfl) | exact Or.inr (Or.inr rfl)) (hd : (x == ("__debug__" : Str)) = false := by decide)
    (hcd : (x == ("__classdict__" : Str)) = false := by decide) : DE X wx (.Name x pos) (dVar i) := by
  refine ⟨_, pe_var hN hv hd hcd, fun W0 W m σ ρ M Q Qd Ed R k h1 h2 h3 => ?_⟩
  unfold dVar at h1
  cases z : ga ρ i with
  | dat d =>
    rw [z] at h1
    obtain ⟨v, e, r⟩ := R.dat z
    exact ⟨v, e, h2 d v W m M h1 (Wd.le.refl W) k r⟩
  | _ => rw [z] at h1; exact h1.elim
theorem dr_var (i : Nat) {x : Str} (hN : X.N[i]? = some x := by rfl) (hv : Vis X.env.scope x := by first | exact Or.inl rfl | exact Or.inr (Or.inl rfl) | exact Or.inr (Or.inr rfl)) (hd : (x == ("__debug__" : Str)) = false := by decide)
    (hcd : (x == ("__classdict__" : Str)) = false := by decide) : DR X wx (.Name x pos) (dVarR i) := by
  refine ⟨_, pe_var hN hv hd hcd, fun W0 W m σ ρ M Q Qd Ed R k h1 h2 h3 => ?_⟩
  unfold dVarR at h1
  obtain ⟨le, _, ad, _, h4⟩ := id R
  have q := h4 i
  cases z : ga ρ i with
  | un => rw [z] at h1; exact h1.elim
  | dat d =>
    rw [z] at h1 q
    obtain ⟨v, e, r⟩ := q
    exact ⟨v, e, h2 d v W m M h1 (Wd.le.refl W) k r.rd⟩
  | own ds =>
    rw [z] at h1 q
    obtain ⟨vs, q1, q2, q3, q4, q5⟩ := q
    exact ⟨_, q1, h2 (.lst ds) _ W m M h1 (Wd.le.refl W) k ⟨_, _, rfl, SqL.of q2, q5⟩⟩
  | bor d =>
    rw [z] at h1 q
    obtain ⟨v, q1, q2⟩ := q
    exact ⟨_, q1, h2 d _ W m M h1 (Wd.le.refl W) k (q2.elim (fun y => y.mono (Ex.refl _) W.ok le.h) fun y => y.rd)⟩
  | dk t ks =>
    rw [z] at h1 q
    obtain ⟨q1, q2, q3, q4⟩ := q
    exact ⟨_, q1, h2 (.dic t ks) _ W m M h1 (Wd.le.refl W) k ⟨_, rfl, q2⟩⟩
theorem rf_c {B : Bx} {v : V} {d : D} (h : ∀ F, Rp B F v d) : RfE B wx (tC v) (dC d) := fun W0 W m σ ρ M Q Qd Ed R k h1 h2 h3 => h2 d v W m M h1 (Wd.le.refl W) k (h _)
theorem de_int {i : Int} {j : Nat} : DE X wx (.Constant (.int i) j pos) (dC (.int i)) := ⟨_, pe_int, rf_c fun _ => .int i⟩
theorem de_bl {b : Bool} {j : Nat} : DE X wx (.Constant (.bool b) j pos) (dC (.bl b)) := ⟨_, pe_bl, rf_c fun _ => .bl b⟩
theorem de_non {j : Nat} : DE X wx (.Constant .none j pos) (dC .non) := ⟨_, pe_non, rf_c fun _ => .non⟩
theorem de_str {x : Str} {j : Nat} : DE X wx (.Constant (.str x) j pos) (dC (.str x)) := ⟨_, pe_str, rf_c fun _ => .str x⟩
/-- a module's constant: a text | an int | a class -/
theorem de_gstr {x z : Str} {t : Tok} (hm : X.mg x = some (.str z t)) (hg : Gl X x := by rfl) (hd : (x == ("__debug__" : Str)) = false := by decide) : DE X wx (.Name x pos) (dC (.str z)) := ⟨_, pe_glob (v := .str z) hg hm ⟨t, rfl⟩ hd, rf_c fun _ => .str z⟩
theorem de_gint {x : Str} {z : Int} {t : Tok} (hm : X.mg x = some (.int z t)) (hg : Gl X x := by rfl) (hd : (x == ("__debug__" : Str)) = false := by decide) : DE X wx (.Name x pos) (dC (.int z)) := ⟨_, pe_glob (v := .int z) hg hm ⟨t, rfl⟩ hd, rf_c fun _ => .int z⟩
theorem cl_of {B : Bx} {x : Str} {a : Addr} (h : B.mg x = some (.ref a)) : B.cl x = a := by unfold Bx.cl; rw [h]
theorem de_gcls {x : Str} {a : Addr} (hm : X.mg x = some (.ref a)) (hg : Gl X x := by rfl) (hd : (x == ("__debug__" : Str)) = false := by decide) : DE X wx (.Name x pos) (dC (.cls x)) := ⟨_, pe_glob (v := .ref a) hg hm rfl hd, rf_c fun _ => by
  have e : (bx X).cl x = a := cl_of hm
  have := Rp.cls (B := bx X) (F := ‹Hp›) x
  rw [e] at this
  exact this⟩
theorem de_gty {x : Str} {n : String} (hm : X.mg x = none) (hv : bootBuiltins x = some (.type n) := by decide +kernel) (hg : Gl X x := by rfl) (hn : x ≠ "__name__" := by decide) (hd : (x == ("__debug__" : Str)) = false := by decide) : DE X wx (.Name x pos) (dC (.ty n)) := ⟨_, pe_bltn (v := .ty n) hg hm hv rfl hn hd, rf_c fun _ => .ty n⟩

/-! ### arguments, displays -/
def dNil : DTA := fun _ M Q _ => Q [] M
def dCons (T : DTE) (R : DTA) : DTA := fun ρ M Q E => T ρ M (fun d M1 => R ρ M1 (fun ds => Q (d :: ds)) E) E
theorem dm_nil : DM X wx [] [] dNil := ⟨_, pa_nil, fun W0 W m σ ρ M Q Qd Ed R k h1 h2 h3 => h2 [] [] W m M h1 (Wd.le.refl W) k .nil⟩
theorem dm_e {ms : List Bool} {R : DTA} (he : DE X wx e T) (hr : DM X wx ms es R) (hs : starEach (e :: es) X.env = (false, eval e X.env) :: starEach es X.env := by rfl) : DM X wx (false :: ms) (e :: es) (dCons T R) := by
  obtain ⟨t, p, r⟩ := he
  obtain ⟨u, p2, r2⟩ := hr
  refine ⟨_, pa_cons p p2 hs, fun W0 W m σ ρ M Q Qd Ed Re k h1 h2 h3 => ?_⟩
  refine r W0 W m σ ρ M _ _ Ed Re k h1 (fun d v W' m' M' q le k' hv => ?_) h3
  refine r2 W0 W' m' σ ρ M' _ _ Ed (Re.mono le) k' q (fun ds vs W'' m'' M'' q2 le2 k'' hvs => ?_) (h3.up le)
  exact h2 (d :: ds) (v :: vs) W'' m'' M'' q2 (le.trans le2) k'' (.dat (hv.mono le2.f) hvs)
theorem dm_r {ms : List Bool} {R : DTA} (he : DR X wx e T) (hr : DM X wx ms es R) (hs : starEach (e :: es) X.env = (false, eval e X.env) :: starEach es X.env := by rfl) : DM X wx (true :: ms) (e :: es) (dCons T R) := by
  obtain ⟨t, p, r⟩ := he
  obtain ⟨u, p2, r2⟩ := hr
  refine ⟨_, pa_cons p p2 hs, fun W0 W m σ ρ M Q Qd Ed Re k h1 h2 h3 => ?_⟩
  refine r W0 W m σ ρ M _ _ Ed Re k h1 (fun d v W' m' M' q le k' hv => ?_) h3
  refine r2 W0 W' m' σ ρ M' _ _ Ed (Re.mono le) k' q (fun ds vs W'' m'' M'' q2 le2 k'' hvs => ?_) (h3.up le)
  exact h2 (d :: ds) (v :: vs) W'' m'' M'' q2 (le.trans le2) k'' (.bor (hv.le le2) hvs)
def dTup (R : DTA) : DTE := fun ρ M Q E => R ρ M (fun ds M' => ds.length ≤ sizeLine ∧ Q (.tup ds) M') E
theorem de_tup {ms : List Bool} {R : DTA} {x1} (h : DM X wx ms es R) (hm : ms.any id = false := by rfl) : DE X wx (.Tuple es x1 pos) (dTup R) := by
  obtain ⟨t, p, r⟩ := h
  refine ⟨_, pe_tup p, fun W0 W m σ ρ M Q Qd Ed Re k h1 h2 h3 => ?_⟩
  refine r W0 W m σ ρ M _ _ Ed Re k h1 (fun ds vs W' m' M' q le k' hv => ⟨by rw [hv.length]; exact q.1, fun pp hp => ?_⟩) h3
  have hp1 := (cat_new hp).1
  exact cat_q (P := Q (.ref pp)) (h2 (.tup ds) (.ref pp) (W'.new pp (.tup vs)) m' M' q.2 (le.trans (W'.le_new hp1)) (k'.new hp) (.tup (SqT.of (upd_same (H := W'.F))) ((hv.all hm).mono (W'.le_new hp1).f)))
def dLst (R : DTA) : DTA := fun ρ M Q E => R ρ M (fun ds M' => ds.length ≤ sizeLine ∧ Q ds M') E
theorem dn_lst {ms : List Bool} {R : DTA} (h : DM X wx ms es R) (hm : ms.any id = false := by rfl) : DN X wx (.List es pos) (dLst R) := by
  obtain ⟨t, p, r⟩ := h
  refine ⟨_, pe_lst p, fun W0 W m σ ρ M Q Qd Ed Re k h1 h2 h3 => ?_⟩
  refine r W0 W m σ ρ M _ _ Ed Re k h1 (fun ds vs W' m' M' q le k' hv => ⟨by rw [hv.length]; exact q.1, fun pp hp => ?_⟩) h3
  have hp1 := (cat_new hp).1
  exact cat_q (P := Q (.ref pp)) (h2 ds pp vs (W'.lay pp (.lst vs) (W'.fnone hp1)) m' M' q.2 (le.trans (W'.le_lay hp1)) (k'.lay hp) (ex_none le.h hp1) upd_same (W'.fnone hp1) (hv.all hm))

/-! ### operators by values -/
def dOp (o : OpD) (a b : DTE) : DTE := fun ρ M Q E => a ρ M (fun x M1 => b ρ M1 (fun y M2 => o (drf M2 x) (drf M2 y) (fun d => Q d M2)) E) E
def RfO (B : Bx) (r : R2) (o : OpD) : Prop := ∀ (W : Wd) (m : Hp) (M : Mu) (x y : V) (dx dy : D) (Q : VK) (Qd : D → Prop), MOk B W M m → RpR B W.F (cat W.H m) x dx → RpR B W.F (cat W.H m) y dy → o dx dy Qd →
  (∀ d v W', Qd d → W.le W' → MOk B W' M m → Rp B W'.F v d → Q v (cat W'.H m)) → r x y (cat W.H m) Q
theorem rf_op {B : Bx} {ta tb : TE} {r : R2} {o : OpD} (ha : RfR B wx ta Ta) (hb : RfR B wx tb Tb) (hr : RfO B r o) : RfE B wx (tOp r ta tb) (dOp o Ta Tb) := fun W0 W m σ ρ M Q Qd Ed R k h1 h2 h3 => by
  refine ha W0 W m σ ρ M _ _ Ed R k h1 (fun d v W' m' M' q le k' hv => ?_) h3
  refine hb W0 W' m' σ ρ M' _ _ Ed (R.mono le) k' q (fun d2 v2 W'' m'' M'' q2 le2 k'' hv2 => ?_) (h3.up le)
  exact hr W'' m'' M'' v v2 _ _ Q _ k'' ((hv.le le2).drf k'') (hv2.drf k'') q2 fun d3 v3 W3 q3 le3 k3 hv3 => h2 d3 v3 W3 m'' M'' q3 ((le.trans le2).trans le3) k3 hv3
theorem de_op {op : Operator} {r : R2} {o : OpD} (ho : OpR X (binaryOp op) r) (hr : RfO (bx X) r o) (ha : DR X wx a Ta) (hb : DR X wx b Tb) : DE X wx (.BinOp a op b pos) (dOp o Ta Tb) := by
  obtain ⟨ta, pa, ra⟩ := ha
  obtain ⟨tb, pb, rb⟩ := hb
  exact ⟨_, pe_op ho pa pb, rf_op ra rb hr⟩

/-! ### + of lists: a new one -/
def rCatS (K : PySem.W.Frag) : R2 := fun x y H Q => ∃ l b xs zs, x = .ref l ∧ y = .ref b ∧ SqL K H l xs ∧ SqL K H b zs ∧ xs.length + zs.length ≤ sizeLine ∧ ∀ p, H p = none → Q (.ref p) (upd H p (.lst (xs ++ zs)))
theorem op_catS : OpR X (binaryOp .Add) (rCatS X.K) := by
  intro pins s σ H x y v u Q I rx ry h
  obtain ⟨l, b, xs, zs, rfl, rfl, hH, hB, hz, q⟩ := h
  cases rx
  cases ry
  obtain ⟨its, r, pl, z⟩ := I.list hH
  obtain ⟨its2, r2, pl2, z2⟩ := I.list hB
  have hl := r.length
  have hl2 := r2.length
  obtain ⟨⟨cls, dd, data, sl⟩, ho, hc, n, hd⟩ := id pl.isList
  obtain ⟨⟨cls2, dd2, data2, sl2⟩, ho2, hc2, n2, hd2⟩ := id pl2.isList
  simp only at hc hd hc2 hd2
  subst hc hd hc2 hd2
  refine concat_meets ⟨_, ho, rfl⟩ ⟨_, ho2, rfl⟩ noFill_list_add seq_list_add PySem.F.slot_list_add PySem.F.entry_list_add (PySem.F.args_list_add_2 _ _) (list_addW l b its.toArray its2.toArray n n2 dd dd2 sl sl2 (by simp; omega)) ⟨ho, ho2, ?_⟩
  have ea : its.toArray ++ its2.toArray = (its ++ its2).toArray := by simp
  rw [ea]
  exact ⟨.ref _, _, I.lnew (t' := s.toks) (r.append r2) (by rw [List.length_append]; omega), rfl, q _ I.fresh⟩
/-- + -/
def oAdd (x y : D) (Q : D → Prop) : Prop := match x, y with
  | .int i, .int j => Q (.int (i + j))
  | .str x, .str y => x.length + y.length ≤ sizeLine ∧ Q (.str (x ++ y))
  | .tup x, .tup y => x.length + y.length ≤ sizeLine ∧ Q (.tup (x ++ y))
  | .lst x, .lst y => x.length + y.length ≤ sizeLine ∧ Q (.lst (x ++ y))
  | _, _ => False
theorem rAll_nil {B : Bx} {F : Hp} {xs : List V} {ds : List D} (h : RpAll B F xs ds) : xs = [] ↔ ds = [] := by
  cases h <;> simp
theorem newT {B : Bx} {W : Wd} {M : Mu} {m : Hp} {p : Addr} {vs : List V} {ds : List D} {Q : VK} (k : MOk B W M m) (hp : cat W.H m p = none) (hv : RpAll B W.F vs ds)
    (h : ∀ W', W.le W' → MOk B W' M m → Rp B W'.F (.ref p) (.tup ds) → Q (.ref p) (cat W'.H m)) : Q (.ref p) (upd (cat W.H m) p (.tup vs)) :=
  cat_q (P := Q (.ref p)) (h (W.new p _) (W.le_new (cat_new hp).1) (k.new hp) (.tup (SqT.of (upd_same (H := W.F))) (hv.mono (W.le_new (cat_new hp).1).f)))
theorem newL {B : Bx} {W : Wd} {M : Mu} {m : Hp} {p : Addr} {vs : List V} {ds : List D} {Q : VK} (k : MOk B W M m) (hp : cat W.H m p = none) (hv : RpAll B W.F vs ds)
    (h : ∀ W', W.le W' → MOk B W' M m → Rp B W'.F (.ref p) (.lst ds) → Q (.ref p) (cat W'.H m)) : Q (.ref p) (upd (cat W.H m) p (.lst vs)) :=
  cat_q (P := Q (.ref p)) (h (W.new p _) (W.le_new (cat_new hp).1) (k.new hp) (.lst (SqL.of (upd_same (H := W.F))) (hv.mono (W.le_new (cat_new hp).1).f)))
theorem newO {B : Bx} {W W1 : Wd} {M : Mu} {m : Hp} {p : Addr} {vs : List V} {ds : List D} {Q : VK} (le : W1.le W) (k : MOk B W M m) (hp : cat W.H m p = none) (hv : RpAll B W.F vs ds)
    (h : ∀ W', W1.le W' → MOk B W' M m → W1.H p = none → W'.H p = some (.lst vs) → W'.F p = none → RpAll B W'.F vs ds → Q (.ref p) (cat W'.H m)) : Q (.ref p) (upd (cat W.H m) p (.lst vs)) :=
  have hp1 := (cat_new hp).1
  cat_q (P := Q (.ref p)) (h (W.lay p _ (W.fnone hp1)) (le.trans (W.le_lay hp1)) (k.lay hp) (ex_none le.h hp1) upd_same (W.fnone hp1) hv)
theorem rf_add {B : Bx} : RfO B (fun x y H Q => rI0 (fun i j => .int (i + j)) x y H Q ∨ (∃ i j, x = .str i ∧ y = .str j ∧ i.length + j.length ≤ sizeLine ∧ Q (.str (i ++ j)) H) ∨ rCatA B.K x y H Q ∨ rCatS B.K x y H Q) oAdd := by
  intro W m M x y dx dy Q Qd mk rx ry h k
  have ok := W.ok.trans (cat_ex W.H m)
  cases dx with
  | int i =>
    cases dy with
    | int j => cases rx; cases ry; exact .inl ⟨i, j, rfl, rfl, k _ _ W h (Wd.le.refl W) mk (.int _)⟩
    | _ => exact h.elim
  | str i =>
    cases dy with
    | str j => cases rx; cases ry; exact .inr (.inl ⟨i, j, rfl, rfl, h.1, k _ _ W h.2 (Wd.le.refl W) mk (.str _)⟩)
    | _ => exact h.elim
  | tup xs =>
    cases dy with
    | tup ys =>
      cases rx with
      | tup hx ax =>
        rename_i a vs
        cases ry with
        | tup hy ay =>
          rename_i b us
          refine .inr (.inr (.inl ⟨a, b, vs, us, rfl, rfl, Evl.ex_t ok hx, Evl.ex_t ok hy, by rw [ax.length, ay.length]; exact h.1, fun z => ?_, fun z1 z2 => ?_, fun z1 z2 p hp => ?_⟩))
          · have e := (rAll_nil ax).mp z
            subst e
            exact k _ _ W h.2 (Wd.le.refl W) mk (.tup hy ay)
          · have e := (rAll_nil ay).mp z2
            subst e
            have q := h.2
            rw [List.append_nil] at q
            exact k _ _ W q (Wd.le.refl W) mk (.tup hx ax)
          · exact newT mk hp (ax.append ay) fun W' le mk' r => k _ _ W' h.2 le mk' r
    | _ => exact h.elim
  | lst xs =>
    cases dy with
    | lst ys =>
      obtain ⟨a1, vs1, rfl, s1, r1⟩ := rx
      obtain ⟨a2, vs2, rfl, s2, r2⟩ := ry
      exact .inr (.inr (.inr ⟨a1, a2, vs1, vs2, rfl, rfl, s1, s2, by rw [r1.length, r2.length]; exact h.1, fun p hp => newL mk hp (r1.append r2) fun W' le mk' r => k _ _ W' h.2 le mk' r⟩))
    | _ => exact h.elim
  | _ => exact h.elim
theorem de_add (ha : DR X wx a Ta) (hb : DR X wx b Tb) : DE X wx (.BinOp a .Add b pos) (dOp oAdd Ta Tb) := de_op (op_add.or (op_add_str.or (op_catA.or op_catS))) rf_add ha hb

/-- - -/
def oSub (x y : D) (Q : D → Prop) : Prop := match x, y with
  | .int i, .int j => Q (.int (i - j))
  | _, _ => False
theorem rf_int0 {B : Bx} {g : Int → Int → V} {gd : Int → Int → D} {o : OpD} (hg : ∀ i j F, Rp B F (g i j) (gd i j)) (ho : ∀ x y Q, o x y Q → ∃ i j, x = .int i ∧ y = .int j ∧ Q (gd i j)) : RfO B (rI0 g) o := by
  intro W m M x y dx dy Q Qd mk rx ry h k
  obtain ⟨i, j, rfl, rfl, q⟩ := ho _ _ _ h
  cases rx
  cases ry
  exact ⟨i, j, rfl, rfl, k _ _ W q (Wd.le.refl W) mk (hg i j _)⟩
theorem rf_intC {B : Bx} {C : Int → Int → Prop} {g : Int → Int → V} {gd : Int → Int → D} {o : OpD} (hg : ∀ i j F, Rp B F (g i j) (gd i j)) (ho : ∀ x y Q, o x y Q → ∃ i j, x = .int i ∧ y = .int j ∧ C i j ∧ Q (gd i j)) : RfO B (rI C g) o := by
  intro W m M x y dx dy Q Qd mk rx ry h k
  obtain ⟨i, j, rfl, rfl, c, q⟩ := ho _ _ _ h
  cases rx
  cases ry
  exact ⟨i, j, rfl, rfl, c, k _ _ W q (Wd.le.refl W) mk (hg i j _)⟩
theorem de_sub (ha : DR X wx a Ta) (hb : DR X wx b Tb) : DE X wx (.BinOp a .Sub b pos) (dOp oSub Ta Tb) :=
  de_op op_sub (rf_int0 (gd := fun i j => .int (i - j)) (fun _ _ _ => .int _) fun x y Q h => by
    unfold oSub at h
    split at h
    · exact ⟨_, _, rfl, rfl, h⟩
    · exact h.elim) ha hb
/-- numbers within 2 ^ 9000 -/
def Sm (i : Int) : Prop := i.natAbs < 2 ^ 9000
theorem Sm.log {i : Int} (h : Sm i) : i.natAbs.log2 < 9000 := PySem.Flt.log2_lt_of (by decide) h
/-- *: of ints (both within 2 ^ 9000), of a text or a list and an int -/
def oMul (x y : D) (Q : D → Prop) : Prop := match x, y with
  | .int i, .int j => Sm i ∧ Sm j ∧ Q (.int (i * j))
  | _, _ => False
theorem de_mul (ha : DR X wx a Ta) (hb : DR X wx b Tb) : DE X wx (.BinOp a .Mult b pos) (dOp oMul Ta Tb) :=
  de_op op_mulW (rf_intC (gd := fun i j => .int (i * j)) (fun _ _ _ => .int _) fun x y Q h => by
    unfold oMul at h
    split at h
    · refine ⟨_, _, rfl, rfl, ?_, h.2.2⟩
      have h1 := h.1.log
      have h2 := h.2.1.log
      unfold CMulW
      omega
    · exact h.elim) ha hb
theorem op_fdivA : OpR X (binaryOp .FloorDiv) (rI (fun _ j => j ≠ 0 ∧ Sm j) fun i j => .int (i.fdiv j)) := opI fun i j _ _ _ _ _ hc q => floordiv_int hc.1 q (.inl (PyProof.noPylong_of_log2 hc.2.log))
def oFdiv (x y : D) (Q : D → Prop) : Prop := match x, y with
  | .int i, .int j => j ≠ 0 ∧ Sm j ∧ Q (.int (i.fdiv j))
  | _, _ => False
theorem de_fdiv (ha : DR X wx a Ta) (hb : DR X wx b Tb) : DE X wx (.BinOp a .FloorDiv b pos) (dOp oFdiv Ta Tb) :=
  de_op op_fdivA (rf_intC (gd := fun i j => .int (i.fdiv j)) (fun _ _ _ => .int _) fun x y Q h => by
    unfold oFdiv at h
    split at h
    · exact ⟨_, _, rfl, rfl, ⟨h.1, h.2.1⟩, h.2.2⟩
    · exact h.elim) ha hb
def oMod (x y : D) (Q : D → Prop) : Prop := match x, y with
  | .int i, .int j => j ≠ 0 ∧ Q (.int (i.fmod j))
  | _, _ => False
theorem de_mod (ha : DR X wx a Ta) (hb : DR X wx b Tb) : DE X wx (.BinOp a .Mod b pos) (dOp oMod Ta Tb) :=
  de_op op_modN (rf_intC (gd := fun i j => .int (i.fmod j)) (fun _ _ _ => .int _) fun x y Q h => by
    unfold oMod at h
    split at h
    · exact ⟨_, _, rfl, rfl, h.1, h.2⟩
    · exact h.elim) ha hb
def oPow (x y : D) (Q : D → Prop) : Prop := match x, y with
  | .int i, .int j => CPow i j ∧ Q (.int (i ^ j.toNat))
  | _, _ => False
theorem de_pow (ha : DR X wx a Ta) (hb : DR X wx b Tb) : DE X wx (.BinOp a .Pow b pos) (dOp oPow Ta Tb) :=
  de_op op_pow (rf_intC (gd := fun i j => .int (i ^ j.toNat)) (fun _ _ _ => .int _) fun x y Q h => by
    unfold oPow at h
    split at h
    · exact ⟨_, _, rfl, rfl, h.1, h.2⟩
    · exact h.elim) ha hb
def dNeg (T : DTE) : DTE := fun ρ M Q E => T ρ M (fun x M' => match x with | .int i => Q (.int (-i)) M' | _ => False) E
theorem de_neg (ha : DR X wx a Ta) : DE X wx (.UnaryOp .USub a pos) (dNeg Ta) := by
  obtain ⟨ta, pa, ra⟩ := ha
  refine ⟨_, pe_un un_neg pa, fun W0 W m σ ρ M Q Qd Ed R k h1 h2 h3 => ?_⟩
  refine ra W0 W m σ ρ M _ _ Ed R k h1 (fun d v W' m' M' q le k' hv => ?_) h3
  cases d with
  | int i => cases hv; exact ⟨i, rfl, h2 _ _ W' m' M' q le k' (.int _)⟩
  | _ => exact q.elim

def oCat (x y : D) (Q : List D → Prop) : Prop := match x, y with
  | .lst xs, .lst ys => xs.length + ys.length ≤ sizeLine ∧ Q (xs ++ ys)
  | _, _ => False
def dCat (a b : DTE) : DTA := fun ρ M Q E => a ρ M (fun x M1 => b ρ M1 (fun y M2 => oCat (drf M2 x) (drf M2 y) fun ds => Q ds M2) E) E
theorem oCat_of {x y : D} {Q : List D → Prop} (h : oCat x y Q) : ∃ xs ys, x = .lst xs ∧ y = .lst ys ∧ xs.length + ys.length ≤ sizeLine ∧ Q (xs ++ ys) := by
  unfold oCat at h
  split at h
  · exact ⟨_, _, rfl, rfl, h.1, h.2⟩
  · exact h.elim
theorem dn_cat (ha : DR X wx a Ta) (hb : DR X wx b Tb) : DN X wx (.BinOp a .Add b pos) (dCat Ta Tb) := by
  obtain ⟨ta, pa, ra⟩ := ha
  obtain ⟨tb, pb, rb⟩ := hb
  refine ⟨_, pe_op op_catS pa pb, fun W0 W m σ ρ M Q Qd Ed R k h1 h2 h3 => ?_⟩
  refine ra W0 W m σ ρ M _ _ Ed R k h1 (fun d v W' m' M' q le k' hv => ?_) h3
  refine rb W0 W' m' σ ρ M' _ _ Ed (R.mono le) k' q (fun d2 v2 W'' m'' M'' q2 le2 k'' hv2 => ?_) (h3.up le)
  have hv := (hv.le le2).drf k''
  have hv2 := hv2.drf k''
  obtain ⟨xs, ys, e1, e2, hl, q3⟩ := oCat_of q2
  rw [e1] at hv
  rw [e2] at hv2
  obtain ⟨a1, vs1, rfl, s1, r1⟩ := hv
  obtain ⟨a2, vs2, rfl, s2, r2⟩ := hv2
  refine ⟨a1, a2, vs1, vs2, rfl, rfl, s1, s2, by rw [r1.length, r2.length]; exact hl, fun p hp => ?_⟩
  exact newO (le.trans le2) k'' hp (r1.append r2) fun W3 l3 k3 h4 h5 h6 h7 => h2 _ p _ W3 m'' M'' q3 l3 k3 h4 h5 h6 h7
end
end Z

/-! Dicts of the store: keys ints and texts, or tuples (nested). -/
namespace Z
open PySem PySem.Spec PyProof.Rows L2
open Evl (Ex)
/-! ### over data -/
def getK (ks : List (D × D)) (k : D) : Option D := (ks.find? fun p => decide (nk p.1 = nk k)).map (·.2)
def putG (ks : List (D × D)) (k v : D) : List (D × D) := if (getK ks k).isSome = true then ks.map (fun p => if nk p.1 = nk k then (p.1, v) else p) else ks ++ [(k, v)]
def kOkB (t : Bool) (k : D) : Bool := match t, k with
  | false, .int _ => true
  | false, .str _ => true
  | true, .tup xs => (match nk (.tup xs) with | some n => decide (n.depth ≤ 8) | none => false)
  | _, _ => false
theorem kOk_f {k : D} (h : kOkB false k = true) : ∃ q : Key, k = keyD q := by
  cases k <;> first | (cases h; done) | skip
  · exact ⟨.inl _, rfl⟩
  · exact ⟨.inr _, rfl⟩
theorem kOk_t {k : D} (h : kOkB true k = true) : ∃ xs n, k = .tup xs ∧ nk k = some n ∧ n.depth ≤ 8 := by
  cases k <;> first | (cases h; done) | skip
  rename_i xs
  have h : (match nk (.tup xs) with | some n => decide (n.depth ≤ 8) | none => false) = true := h
  cases z : nk (.tup xs) with
  | none => rw [z] at h; cases h
  | some n => rw [z] at h; exact ⟨xs, n, rfl, rfl, of_decide_eq_true h⟩
theorem nk_key : ∀ k : Key, nk (keyD k) = some (match k with | .inl i => .num i | .inr x => .text x)
  | .inl _ => by simp [keyD, nk]
  | .inr _ => by simp [keyD, nk]
theorem nk_key_inj {a b : Key} : nk (keyD a) = nk (keyD b) ↔ a = b := by
  rw [nk_key, nk_key]
  cases a <;> cases b <;> simp
theorem getK_nil (k : D) : getK [] k = none := rfl
theorem getK_pos {p : D × D} {r : List (D × D)} {k : D} (e : nk p.1 = nk k) : getK (p :: r) k = some p.2 := by simp [getK, List.find?_cons, e]
theorem getK_neg {p : D × D} {r : List (D × D)} {k : D} (e : ¬ nk p.1 = nk k) : getK (p :: r) k = getK r k := by simp [getK, List.find?_cons, e]
section
variable {B : Bx} {F H : Hp}
theorem rp_key {v : V} {k : Key} (h : Rp B F v (keyD k)) : v = kV k := by
  cases k with
  | inl i => cases h; rfl
  | inr x => cases h; rfl
theorem RpK.get : ∀ {kv : List (Key × V)} {ks : List (D × D)}, RpK B F kv ks → ∀ k : Key, (valV kv k = none ∧ getK ks (keyD k) = none) ∨ ∃ v d, valV kv k = some v ∧ getK ks (keyD k) = some d ∧ Rp B F v d
  | _, _, .nil, _ => .inl ⟨rfl, rfl⟩
  | _, _, .cons (k := k0) h t, k => by
    by_cases e : k0 = k
    · exact .inr ⟨_, _, valV_pos (p := (k0, _)) e, getK_pos (p := (keyD k0, _)) (by rw [e]), h⟩
    · rw [valV_neg (p := (k0, _)) e, getK_neg (p := (keyD k0, _)) (fun z => e (nk_key_inj.mp z))]
      exact RpK.get t k
theorem RpK.len : ∀ {kv : List (Key × V)} {ks : List (D × D)}, RpK B F kv ks → kv.length = ks.length
  | _, _, .nil => rfl
  | _, _, .cons _ t => congrArg (· + 1) t.len
theorem RpK.repl {v : V} {d : D} (r : Rp B F v d) (k : Key) : ∀ {kv : List (Key × V)} {ks : List (D × D)}, RpK B F kv ks → RpK B F (kv.map fun p => if p.1 = k then (p.1, v) else p) (ks.map fun p => if nk p.1 = nk (keyD k) then (p.1, d) else p)
  | _, _, .nil => .nil
  | _, _, .cons (k := k0) h t => by
    rw [List.map_cons, List.map_cons]
    by_cases e : k0 = k
    · rw [if_pos e, if_pos (by rw [e])]
      exact .cons r (RpK.repl r k t)
    · rw [if_neg e, if_neg (fun z => e (nk_key_inj.mp z))]
      exact .cons h (RpK.repl r k t)
theorem RpK.snoc {v : V} {d : D} (r : Rp B F v d) (k : Key) : ∀ {kv : List (Key × V)} {ks : List (D × D)}, RpK B F kv ks → RpK B F (kv ++ [(k, v)]) (ks ++ [(keyD k, d)])
  | _, _, .nil => .cons r .nil
  | _, _, .cons h t => .cons h (RpK.snoc r k t)
theorem RpK.put {v : V} {d : D} (r : Rp B F v d) (k : Key) {kv : List (Key × V)} {ks : List (D × D)} (h : RpK B F kv ks) : RpK B F (putK kv k v) (putG ks (keyD k) d) := by
  unfold putK putG
  rw [valV_any]
  rcases h.get k with ⟨e1, e2⟩ | ⟨v0, d0, e1, e2, _⟩
  · rw [e1, e2]; exact RpK.snoc r k h
  · rw [e1, e2]; exact RpK.repl r k h
theorem RpX.get : ∀ {xs : List (NestedKey × Addr × Value)} {ks : List (D × D)}, RpX B F xs ks → ∀ {k : D} {n : NestedKey}, nk k = some n → (atKey xs n = none ∧ getK ks k = none) ∨ ∃ b u v d, atKey xs n = some (b, u) ∧ RelV v u ∧ Rp B F v d ∧ getK ks k = some d
  | _, _, .nil, _, _, _ => .inl ⟨rfl, rfl⟩
  | _, _, .cons (k := k0) (a := a) (u := u) (v := v) (c := c) (d := d) hc hn h8 hr h t, k, n, e => by
    by_cases z : k0 = n
    · refine .inr ⟨a, u, v, d, ?_, hr, h, getK_pos (p := (c, d)) (by rw [e, hn, z])⟩
      simp [atKey, List.find?_cons, z]
    · have z2 : ¬ nk c = nk k := fun y => by rw [hn, e] at y; cases y; exact z rfl
      rw [getK_neg (p := (c, d)) z2]
      have : ∀ r, atKey ((k0, a, u) :: r) n = atKey r n := fun r => by simp [atKey, List.find?_cons, z]
      rw [this]
      exact RpX.get t e
theorem RpX.len : ∀ {xs : List (NestedKey × Addr × Value)} {ks : List (D × D)}, RpX B F xs ks → xs.length = ks.length
  | _, _, .nil => rfl
  | _, _, .cons _ _ _ _ _ t => congrArg (· + 1) t.len
theorem RpX.repl {v : V} {u : Value} {d k : D} {n : NestedKey} (r : Rp B F v d) (rv : RelV v u) (e : nk k = some n) : ∀ {xs : List (NestedKey × Addr × Value)} {ks : List (D × D)}, RpX B F xs ks → RpX B F (xs.map (putAt n u)) (ks.map fun p => if nk p.1 = nk k then (p.1, d) else p)
  | _, _, .nil => .nil
  | _, _, .cons (k := k0) (c := c) hc hn h8 hr h t => by
    rw [List.map_cons, List.map_cons]
    unfold putAt
    by_cases z : k0 = n
    · rw [if_pos z, if_pos (by rw [hn, e, z])]
      exact .cons hc hn h8 rv r (RpX.repl r rv e t)
    · rw [if_neg z, if_neg (fun y => by rw [hn, e] at y; cases y; exact z rfl)]
      exact .cons hc hn h8 hr h (RpX.repl r rv e t)
theorem RpX.snoc {v : V} {u : Value} {b : Addr} {d k : D} {n : NestedKey} (r : Rp B F v d) (rv : RelV v u) (hb : Rp B F (.ref b) k) (e : nk k = some n) (h8 : n.depth ≤ 8) : ∀ {xs : List (NestedKey × Addr × Value)} {ks : List (D × D)}, RpX B F xs ks → RpX B F (xs ++ [(n, b, u)]) (ks ++ [(k, d)])
  | _, _, .nil => .cons hb e h8 rv r .nil
  | _, _, .cons hc hn h8' hr h t => .cons hc hn h8' hr h (RpX.snoc r rv hb e h8 t)
theorem RpK.at : ∀ {kv : List (Key × V)} {ks : List (D × D)} {i : Nat} {p : D × D}, RpK B F kv ks → ks[i]? = some p → ∃ k v, kv[i]? = some (k, v) ∧ p.1 = keyD k
  | _, _, _, _, .nil, e => by simp at e
  | _, _, 0, _, .cons (k := k0) (v := v) h t, e => by simp at e; subst e; exact ⟨k0, v, rfl, rfl⟩
  | _, _, i + 1, p, .cons h t, e => by
    obtain ⟨k, v, h1, h2⟩ := RpK.at (i := i) (p := p) t (by simpa using e)
    exact ⟨k, v, by simpa using h1, h2⟩
theorem RpX.at : ∀ {xs : List (NestedKey × Addr × Value)} {ks : List (D × D)} {i : Nat} {p : D × D}, RpX B F xs ks → ks[i]? = some p → ∃ x, xs[i]? = some x ∧ Rp B F (.ref x.2.1) p.1
  | _, _, _, _, .nil, e => by simp at e
  | _, _, 0, _, .cons hc hn h8 hr h t, e => by simp at e; subst e; exact ⟨_, rfl, hc⟩
  | _, _, i + 1, p, .cons hc hn h8 hr h t, e => by
    obtain ⟨x, h1, h2⟩ := RpX.at (i := i) (p := p) t (by simpa using e)
    exact ⟨x, by simpa using h1, h2⟩
theorem RpX.put {v : V} {u : Value} {b : Addr} {d k : D} {n : NestedKey} (r : Rp B F v d) (rv : RelV v u) (hb : Rp B F (.ref b) k) (e : nk k = some n) (h8 : n.depth ≤ 8) {xs : List (NestedKey × Addr × Value)} {ks : List (D × D)} (h : RpX B F xs ks) : RpX B F (storedH xs n b u) (putG ks k d) := by
  unfold putG
  rcases h.get e with ⟨e1, e2⟩ | ⟨b0, u0, v0, d0, e1, _, _, e2⟩
  · rw [storedH_new e1, e2]; exact RpX.snoc r rv hb e h8 h
  · rw [storedH_old e1, e2]; exact RpX.repl r rv e h
end
/-! ### over the heap -/
section
variable {X : Cx} {F H : Hp} {pins : List (Addr × Obj)} {σ : L2.St} {s : Shared}
mutual
theorem Rp.nst (I : Inv X pins σ H s) (ex : Ex F H) : ∀ {v : V} {d : D}, Rp (bx X) F v d → ∀ {k : NestedKey} {u : Value}, nk d = some k → RelV v u → NestedIs s.heap k u
  | _, _, .non, _, _, e, r => by simp only [nk] at e; cases e; cases r; exact .none
  | _, _, .bl b, _, _, e, r => by simp only [nk] at e; cases e; cases r; exact .bool (by cases b <;> rfl)
  | _, _, .int i, _, _, e, r => by simp only [nk] at e; cases e; obtain ⟨t, rfl⟩ := r; exact .int _ _
  | _, _, .str x, _, _, e, r => by simp only [nk] at e; cases e; obtain ⟨t, rfl⟩ := r; exact .text _ _
  | _, _, .tup (ds := ds) h a, k, u, e, r => by
    simp only [nk] at e
    obtain ⟨ks, e1, rfl⟩ := Option.map_eq_some_iff.mp e
    cases r
    obtain ⟨its, rv, ⟨o, ho, hc, n, hd⟩, _⟩ := I.tuple (Evl.ex_t ex h)
    exact .tup ho hc hd (RpAll.nst I ex a e1 rv)
  | _, _, .ty n, _, _, e, _ => by simp [nk] at e
  | _, _, .cls n, _, _, e, _ => by simp [nk] at e
  | _, _, .ref n, _, _, e, _ => by simp [nk] at e
  | _, _, .lst _ _, _, _, e, _ => by simp [nk] at e
  | _, _, .obj _ _, _, _, e, _ => by simp [nk] at e
  | _, _, .exc _, _, _, e, _ => by simp [nk] at e
  | _, _, .dic _ _, _, _, e, _ => by simp [nk] at e
  | _, _, .dit _ _, _, _, e, _ => by simp [nk] at e
theorem RpAll.nst (I : Inv X pins σ H s) (ex : Ex F H) : ∀ {vs : List V} {ds : List D}, RpAll (bx X) F vs ds → ∀ {ks : List NestedKey} {us : List Value}, nks ds = some ks → Vals vs us → NestedAll s.heap ks us
  | _, _, .nil, _, _, e, r => by simp only [nks] at e; cases e; cases r; exact .nil
  | _, _, .cons (d := d) (ds := ds) h t, ks, us, e, r => by
    simp only [nks] at e
    cases z1 : nk d with
    | none => rw [z1] at e; cases e
    | some k0 =>
      cases z2 : nks ds with
      | none => rw [z1, z2] at e; cases e
      | some ks0 =>
        rw [z1, z2] at e
        cases e
        cases r with
        | cons r1 r2 => exact .cons (Rp.nst I ex h z1 r1) (RpAll.nst I ex t z2 r2)
end
theorem dk_at {a : Addr} {o : Obj} {kv : List (Key × V)} (I : Inv X pins σ H s) (h : H a = some (.ext (DkAt (bx X) a o kv))) : DkAt (bx X) a o kv s.heap := (I.hok a _ h).1
theorem RpX.keys (I : Inv X pins σ H s) (ex : Ex F H) : ∀ {xs : List (NestedKey × Addr × Value)} {ks : List (D × D)}, RpX (bx X) F xs ks → ∀ x ∈ xs, (nestedKind X.prog X.w).is s.heap x.1 x.2.1
  | _, _, .nil, _, h => by simp at h
  | _, _, .cons hc hn h8 hr h t, x, hx => by
    rcases List.mem_cons.mp hx with rfl | hx
    · exact ⟨Rp.nst I ex hc hn rfl, h8⟩
    · exact RpX.keys I ex t x hx
theorem raw_at {a : Addr} {o : Obj} {xs : List (NestedKey × Addr × Value)} {ks : List (D × D)} (I : Inv X pins σ H s) (ex : Ex F H) (h : H a = some (.ext (RawD (bx X) a o xs))) (r : RpX (bx X) F xs ks) :
    s.heap.DictOfH (nestedKind X.prog X.w) a xs ∧ (a == sysModules) = false ∧ xs.length ≤ sizeLine ∧ s.heap.get? a = some o := by
  obtain ⟨h1, h2, h3, h4, h5, es, ep, h6, h7⟩ := (I.hok a _ h).1
  exact ⟨⟨o, es, ep, h1, h4, h6, h7, RpX.keys I ex r, h5⟩, h3, h2, h1⟩
theorem roomN {A : Around} {k : Nat} (hr : Room k A) : (nestedKind X.prog X.w).room A.in1 := by
  have := hr.units
  show A.in1.units + 8 < cLine
  have e : A.in1.units = A.units + 1 := rfl
  omega
/-- what a dict's object is true of, kept -/
theorem dk_ok {P : Program} {w : World} {H' : Hp} {h' : Heap} {B : Bx} {a : Addr} {o : Obj} {kv : List (Key × V)} {vs : List (Key × Value)} (ho : h'.get? a = some o) (z : kv.length ≤ sizeLine) (hd : (a == sysModules) = false) (rel : KV kv vs) (dd : h'.DictOf (mixKind B.P B.w) a vs) : ObjOk P w H' h' a (.ext (DkAt B a o kv)) :=
  ⟨⟨ho, z, hd, vs, rel, dd⟩, ⟨o, ho⟩, fun h1 h2 ⟨e1, e2, e3, vs1, e4, e5⟩ k => ⟨k _ e1, e2, e3, vs1, e4, by
    obtain ⟨q, es, ep, hq, r⟩ := e5
    exact ⟨q, es, ep, k _ hq, r⟩⟩⟩
theorem raw_ok {P : Program} {w : World} {H' : Hp} {h' : Heap} {B : Bx} {a : Addr} {o : Obj} {xs : List (NestedKey × Addr × Value)} (z : xs.length ≤ sizeLine) (hd : (a == sysModules) = false) (ho : h'.get? a = some o) (dd : h'.DictOfH (nestedKind B.P B.w) a xs) : ObjOk P w H' h' a (.ext (RawD B a o xs)) := by
  obtain ⟨o', es, ep, h1, h2, h3, h4, _, h5⟩ := dd
  rw [ho] at h1
  cases h1
  exact ⟨⟨ho, z, hd, h2, h5, es, ep, h3, h4⟩, ⟨o, ho⟩, fun h1 h2 ⟨e1, r⟩ k => ⟨k _ e1, r⟩⟩
end
section
variable {X : Cx} {F H : Hp} {pins : List (Addr × Obj)} {σ : L2.St} {s : Shared} {A : Around} {E : Value → Shared → Prop} {a : Addr} {t : Bool} {ks : List (D × D)} {y v : V} {k d : D} {u r : Value} {j : Nat}
theorem dx_in {Q : Value → Shared → Prop} (hr : Room j A) (I : Inv X pins σ H s) (ex : Ex F H) (hd : DicO (bx X) F a t ks (H a)) (hk : Rp (bx X) F y k) (ko : kOkB t k = true) (ry : RelV y u) (h : ∀ s', Inv X pins σ H s' → Q (.bool (getK ks k).isSome) s') :
    wpAny (model X.prog X.w) A (compareOp .In u (.ref a)) Q E s := by
  rcases hd with ⟨rfl, kv, ob, e, rk⟩ | ⟨rfl, xs, ob, e, rk⟩
  · obtain ⟨q, rfl⟩ := kOk_f ko
    have := rp_key hk
    subst this
    obtain ⟨_, z, hs, vs, rel, dd⟩ := dk_at I e
    refine wpAny_in_of (kV_is ry) hs dd.mapOf ?_
    rw [← (rel.val q).isSome_eq]
    have e2 : (valV kv q).isSome = (getK ks (keyD q)).isSome := by rcases rk.get q with ⟨e1, e2⟩ | ⟨_, _, e1, e2, _⟩ <;> rw [e1, e2] <;> rfl
    rw [e2]
    exact h _ (I.tok _)
  · obtain ⟨zs, n, rfl, hn, h8⟩ := kOk_t ko
    obtain ⟨dd, hs, z, _⟩ := raw_at I ex e rk
    cases hk with
    | tup h1 h2 =>
      cases ry
      refine wpAny_in_heap (roomN hr) ⟨Rp.nst I ex (.tup h1 h2) hn rfl, h8⟩ hs dd ?_
      have e2 : (atKey xs n).isSome = (getK ks (.tup zs)).isSome := by rcases rk.get hn with ⟨e1, e2⟩ | ⟨_, _, _, _, e1, _, _, e2⟩ <;> rw [e1, e2] <;> rfl
      rw [e2]
      exact h _ (I.tok _)
theorem dx_notIn {Q : Value → Shared → Prop} (hr : Room j A) (I : Inv X pins σ H s) (ex : Ex F H) (hd : DicO (bx X) F a t ks (H a)) (hk : Rp (bx X) F y k) (ko : kOkB t k = true) (ry : RelV y u) (h : ∀ s', Inv X pins σ H s' → Q (.bool (!(getK ks k).isSome)) s') :
    wpAny (model X.prog X.w) A (compareOp .NotIn u (.ref a)) Q E s := by
  rcases hd with ⟨rfl, kv, ob, e, rk⟩ | ⟨rfl, xs, ob, e, rk⟩
  · obtain ⟨q, rfl⟩ := kOk_f ko
    have := rp_key hk
    subst this
    obtain ⟨_, z, hs, vs, rel, dd⟩ := dk_at I e
    refine wpAny_notIn_of (kV_is ry) hs dd.mapOf ?_
    rw [← (rel.val q).isSome_eq]
    have e2 : (valV kv q).isSome = (getK ks (keyD q)).isSome := by rcases rk.get q with ⟨e1, e2⟩ | ⟨_, _, e1, e2, _⟩ <;> rw [e1, e2] <;> rfl
    rw [e2]
    exact h _ (I.tok _)
  · obtain ⟨zs, n, rfl, hn, h8⟩ := kOk_t ko
    obtain ⟨dd, hs, z, _⟩ := raw_at I ex e rk
    cases hk with
    | tup h1 h2 =>
      cases ry
      refine wpAny_notIn_heap (roomN hr) ⟨Rp.nst I ex (.tup h1 h2) hn rfl, h8⟩ hs dd ?_
      have e2 : (atKey xs n).isSome = (getK ks (.tup zs)).isSome := by rcases rk.get hn with ⟨e1, e2⟩ | ⟨_, _, _, _, e1, _, _, e2⟩ <;> rw [e1, e2] <;> rfl
      rw [e2]
      exact h _ (I.tok _)
theorem dx_item {Q : Value → Shared → Prop} (hr : Room j A) (I : Inv X pins σ H s) (ex : Ex F H) (hd : DicO (bx X) F a t ks (H a)) (hk : Rp (bx X) F y k) (ko : kOkB t k = true) (ry : RelV y u) (hg : getK ks k = some d) (h : ∀ v w' s', Inv X pins σ H s' → RelV v w' → Rp (bx X) F v d → Q w' s') :
    wpAny (model X.prog X.w) A (getItem (.ref a) u) Q E s := by
  rcases hd with ⟨rfl, kv, ob, e, rk⟩ | ⟨rfl, xs, ob, e, rk⟩
  · obtain ⟨q, rfl⟩ := kOk_f ko
    have := rp_key hk
    subst this
    obtain ⟨_, z, hs, vs, rel, dd⟩ := dk_at I e
    rcases rk.get q with ⟨e1, e2⟩ | ⟨v, d', e1, e2, rv⟩
    · rw [hg] at e2; cases e2
    · rw [hg] at e2; cases e2
      obtain ⟨w', hw, rw'⟩ := RelO.some_of (v := v) (o := valueAt vs q) (by rw [← e1]; exact rel.val q)
      exact wpAny_getItem_of (kV_is ry) dd.mapOf hw (h v w' _ (I.tok _) rw' rv)
  · obtain ⟨zs, n, rfl, hn, h8⟩ := kOk_t ko
    obtain ⟨dd, hs, z, _⟩ := raw_at I ex e rk
    cases hk with
    | tup h1 h2 =>
      cases ry
      rcases rk.get hn with ⟨e1, e2⟩ | ⟨b, w', v, d', e1, rw', rv, e2⟩
      · rw [hg] at e2; cases e2
      · rw [hg] at e2; cases e2
        exact wpAny_getItem_heap (roomN hr) ⟨Rp.nst I ex (.tup h1 h2) hn rfl, h8⟩ dd e1 (h v w' _ (I.tok _) rw' rv)
/-- d.get(k, x) -/
theorem dx_get2 {Q : Value → Shared → Prop} {x : V} {dx : D} {rx : Value} (hr : Room j A) (I : Inv X pins σ H s) (ex : Ex F H) (hd : DicO (bx X) F a t ks (H a)) (hk : Rp (bx X) F y k) (ko : kOkB t k = true) (ry : RelV y u) (hx : Rp (bx X) F x dx) (rrx : RelV x rx) (h : ∀ v w' s', Inv X pins σ H s' → RelV v w' → Rp (bx X) F v ((getK ks k).getD dx) → Q w' s') :
    wpAny (model X.prog X.w) A (call (.builtin "dict.get") [.ref a, u, rx]) Q E s := by
  rcases hd with ⟨rfl, kv, ob, e, rk⟩ | ⟨rfl, xs, ob, e, rk⟩
  · obtain ⟨q, rfl⟩ := kOk_f ko
    have := rp_key hk
    subst this
    obtain ⟨_, z, hs, vs, rel, dd⟩ := dk_at I e
    refine call_meetsIn PySem.F.slot_dict_get dd.typeIs PySem.F.entry_dict_get (PySem.F.args_dict_get_3 _ _ _) (meets_dict_get_default (mixKind X.prog X.w) a (kV_is ry) hs rx) ⟨_, dd.mapOf, ?_⟩
    have rr := (rel.val q).getD rrx
    rcases rk.get q with ⟨e1, e2⟩ | ⟨v, d', e1, e2, rv⟩
    · rw [e1] at rr
      exact h x _ _ (I.tok _) rr (by rw [e2]; exact hx)
    · rw [e1] at rr
      exact h v _ _ (I.tok _) rr (by rw [e2]; exact rv)
  · obtain ⟨zs, n, rfl, hn, h8⟩ := kOk_t ko
    obtain ⟨dd, hs, z, _⟩ := raw_at I ex e rk
    cases hk with
    | tup h1 h2 =>
      cases ry
      refine call_meetsIn PySem.F.slot_dict_get dd.typeIs PySem.F.entry_dict_get (PySem.F.args_dict_get_3 _ _ _) (meetsH_dict_get_default (nestedKind X.prog X.w) a _ hs rx) ⟨roomN hr, n, xs, ⟨Rp.nst I ex (.tup h1 h2) hn rfl, h8⟩, dd, ?_⟩
      rcases rk.get hn with ⟨e1, e2⟩ | ⟨b, w', v, d', e1, rw', rv, e2⟩
      · rw [e1]
        exact h x _ _ (I.tok _) rrx (by rw [e2]; exact hx)
      · rw [e1]
        exact h v _ _ (I.tok _) rw' (by rw [e2]; exact rv)
theorem putG_len (ks : List (D × D)) (k v : D) : (putG ks k v).length ≤ ks.length + 1 := by
  unfold putG
  split <;> simp
/-- d[k] = v -/
theorem dx_set {Q : Unit → Shared → Prop} (hr : Room j A) (I : Inv X pins σ H s) (ex : Ex F H) (hd : DicO (bx X) F a t ks (H a)) (hk : Rp (bx X) F y k) (ko : kOkB t k = true) (hl : ks.length < sizeLine) (ry : RelV y u) (hv : Rp (bx X) F v d) (rv : RelV v r)
    (h : ∀ o' s', DicO (bx X) F a t (putG ks k d) (some o') → Inv X pins σ (upd H a o') s' → Q () s') : wpAny (model X.prog X.w) A (setItem (.ref a) u r) Q E s := by
  rcases hd with ⟨rfl, kv, ob, e, rk⟩ | ⟨rfl, xs, ob, e, rk⟩
  · obtain ⟨q, rfl⟩ := kOk_f ko
    have := rp_key hk
    subst this
    obtain ⟨_, z, hs, vs, rel, dd⟩ := dk_at I e
    have hz : vs.length ≤ sizeLine := by rw [← rel.length]; exact z
    have hl2 : (putK kv q v).length ≤ sizeLine := by have := length_putK kv q v; have := rk.len; omega
    refine wpAny_setItem_pairs (hsz := hz) (kV_is ry) dd fun h' dd' hs' => ?_
    obtain ⟨ob', hq⟩ : ∃ q, h'.get? a = some q := let ⟨q, _, _, hq, _⟩ := dd'; ⟨q, hq⟩
    exact h (.ext (DkAt (bx X) a ob' (putK kv q v))) _ (.inl ⟨rfl, _, ob', rfl, rk.put hv q⟩) (d_write I (by rw [e]; exact True.intro) hs' ⟨_, hq⟩ (dk_ok hq hl2 hs (rel.put q rv) dd'))
  · obtain ⟨zs, n, rfl, hn, h8⟩ := kOk_t ko
    obtain ⟨dd, hs, z, _⟩ := raw_at I ex e rk
    cases hk with
    | tup h1 h2 =>
      rename_i b vs
      cases ry
      refine wpAny_setItem_heap (hsz := z) (roomN hr) ⟨Rp.nst I ex (.tup h1 h2) hn rfl, h8⟩ dd fun h' dd' hs' => ?_
      have rk' := rk.put (b := b) hv rv (.tup h1 h2) hn h8
      have hl2 : (storedH xs n b r).length ≤ sizeLine := by rw [rk'.len]; have := putG_len ks (.tup zs) d; omega
      obtain ⟨ob', hq⟩ : ∃ q, h'.get? a = some q := let ⟨q, _, _, hq, _⟩ := dd'; ⟨q, hq⟩
      exact h (.ext (RawD (bx X) a ob' (storedH xs n b r))) _ (.inr ⟨rfl, _, ob', rfl, rk'⟩) (d_write I (by rw [e]; exact True.intro) hs' ⟨_, hq⟩ (raw_ok hl2 hs hq dd'))
/-- d.setdefault(k, x) -/
theorem dx_setd {Q : Value → Shared → Prop} {x : V} {dx : D} {rx : Value} (hr : Room j A) (I : Inv X pins σ H s) (ex : Ex F H) (hd : DicO (bx X) F a t ks (H a)) (hk : Rp (bx X) F y k) (ko : kOkB t k = true) (hl : ks.length < sizeLine) (ry : RelV y u) (hx : Rp (bx X) F x dx) (rrx : RelV x rx)
    (h1 : ∀ d v w' s', getK ks k = some d → Inv X pins σ H s' → RelV v w' → Rp (bx X) F v d → Q w' s') (h2 : ∀ o' s', getK ks k = none → DicO (bx X) F a t (putG ks k dx) (some o') → Inv X pins σ (upd H a o') s' → Q rx s') :
    wpAny (model X.prog X.w) A (call (.builtin "dict.setdefault") [.ref a, u, rx]) Q E s := by
  rcases hd with ⟨rfl, kv, ob, e, rk⟩ | ⟨rfl, xs, ob, e, rk⟩
  · obtain ⟨q, rfl⟩ := kOk_f ko
    have := rp_key hk
    subst this
    obtain ⟨_, z, hs, vs, rel, dd⟩ := dk_at I e
    have hz : vs.length ≤ sizeLine := by rw [← rel.length]; exact z
    refine call_meetsIn PySem.F.slot_dict_setdefault dd.typeIs PySem.F.entry_dict_setdefault (PySem.F.args_dict_setdefault_3 _ _ _) (kt_meets_setdefault (mixKind X.prog X.w) a (kV_is ry) hs rx) ⟨vs, dd, hz, fun w0 hv => ?_, fun hn h' dd' hs' => ?_⟩
    · have q0 := rel.val q
      rw [hv] at q0
      rcases rk.get q with ⟨e1, e2⟩ | ⟨v, d', e1, e2, rv⟩
      · rw [e1] at q0; exact (show False from q0).elim
      · rw [e1] at q0; exact h1 d' v _ _ e2 (I.tok _) q0 rv
    · have q0 := rel.val q
      rw [hn] at q0
      rcases rk.get q with ⟨e1, e2⟩ | ⟨v, d', e1, e2, rv⟩
      · have hl2 : (putK kv q x).length ≤ sizeLine := by have := length_putK kv q x; have := rk.len; omega
        obtain ⟨ob', hq⟩ : ∃ q, h'.get? a = some q := let ⟨q, _, _, hq, _⟩ := dd'; ⟨q, hq⟩
        exact h2 (.ext (DkAt (bx X) a ob' (putK kv q x))) _ e2 (.inl ⟨rfl, _, ob', rfl, rk.put hx q⟩) (d_write I (by rw [e]; exact True.intro) hs' ⟨_, hq⟩ (dk_ok hq hl2 hs (rel.put q rrx) dd'))
      · rw [e1] at q0; exact (show False from q0).elim
  · obtain ⟨zs, n, rfl, hn, h8⟩ := kOk_t ko
    obtain ⟨dd, hs, z, _⟩ := raw_at I ex e rk
    cases hk with
    | tup g1 g2 =>
      rename_i b vs
      cases ry
      refine call_meetsIn PySem.F.slot_dict_setdefault dd.typeIs PySem.F.entry_dict_setdefault (PySem.F.args_dict_setdefault_3 _ _ _) (meetsH_dict_setdefault (nestedKind X.prog X.w) a _ hs rx) ⟨roomN hr, n, xs, ⟨Rp.nst I ex (.tup g1 g2) hn rfl, h8⟩, dd, z, fun p hp => ?_, fun hno h' dd' hs' => ?_⟩
      · rcases rk.get hn with ⟨e1, e2⟩ | ⟨b, w', v, d', e1, rw', rv, e2⟩
        · rw [e1] at hp; cases hp
        · rw [e1] at hp; cases hp; exact h1 d' v _ _ e2 (I.tok _) rw' rv
      · rcases rk.get hn with ⟨e1, e2⟩ | ⟨b, w', v, d', e1, rw', rv, e2⟩
        · have rk' := rk.put (b := b) hx rrx (.tup g1 g2) hn h8
          have hl2 : (storedH xs n b rx).length ≤ sizeLine := by rw [rk'.len]; have := putG_len ks (.tup zs) dx; omega
          obtain ⟨ob', hq⟩ : ∃ q, h'.get? a = some q := let ⟨q, _, _, hq, _⟩ := dd'; ⟨q, hq⟩
          exact h2 (.ext (RawD (bx X) a ob' (storedH xs n b rx))) _ e2 (.inr ⟨rfl, _, ob', rfl, rk'⟩) (d_write I (by rw [e]; exact True.intro) hs' ⟨_, hq⟩ (raw_ok hl2 hs hq dd'))
        · rw [hno] at e1; cases e1
theorem dx_len {Q : Value → Shared → Prop} (I : Inv X pins σ H s) (ex : Ex F H) (hd : DicO (bx X) F a t ks (H a)) (h : ∀ tk s', Inv X pins σ H s' → Q (.int ks.length tk) s') : wpAny (model X.prog X.w) A (call (.builtin "len") [.ref a]) Q E s := by
  rcases hd with ⟨rfl, kv, ob, e, rk⟩ | ⟨rfl, xs, ob, e, rk⟩
  · obtain ⟨_, z, hs, vs, rel, dd⟩ := dk_at I e
    refine call_len_dict hs dd (by rw [← rel.length]; rw [sizeLine_eq] at z; omega) ?_
    rw [← rel.length, rk.len]
    exact h _ _ (I.tok _)
  · obtain ⟨dd, hs, z, _⟩ := raw_at I ex e rk
    refine call_len_dictH hs dd (by rw [sizeLine_eq] at z; omega) ?_
    rw [rk.len]
    exact h _ _ (I.tok _)
end
/-! ### rules by values -/
theorem RpR.key {B : Bx} {F H : Hp} {v : V} {t : Bool} {k : D} (h : RpR B F H v k) (ko : kOkB t k = true) : Rp B F v k := by
  cases t
  · obtain ⟨q, rfl⟩ := kOk_f ko
    cases q with
    | inl i => exact h
    | inr x => exact h
  · obtain ⟨xs, n, rfl, _⟩ := kOk_t ko
    exact h
def rInX (B : Bx) (neg : Bool) : R2 := fun x y H Q => ∃ F a t ks k, Ex F H ∧ y = .ref a ∧ DicO B F a t ks (H a) ∧ Rp B F x k ∧ kOkB t k = true ∧ Q (.bl (if neg then !(getK ks k).isSome else (getK ks k).isSome)) H
section
variable {X : Cx} {j : Nat}
theorem op_inX (hr : Room j X.A) : OpR X (compareOp .In) (rInX (bx X) false) := by
  intro pins s σ H x y v u Q I rx ry h
  obtain ⟨F, a, t, ks, k, ex, rfl, hd, hk, ko, q⟩ := h
  cases ry
  exact dx_in hr I ex hd hk ko rx fun s' I' => ⟨.bl _, H, I', rfl, q⟩
theorem op_notInX (hr : Room j X.A) : OpR X (compareOp .NotIn) (rInX (bx X) true) := by
  intro pins s σ H x y v u Q I rx ry h
  obtain ⟨F, a, t, ks, k, ex, rfl, hd, hk, ko, q⟩ := h
  cases ry
  exact dx_notIn hr I ex hd hk ko rx fun s' I' => ⟨.bl _, H, I', rfl, q⟩
theorem dx_type {F H : Hp} {pins : List (Addr × Obj)} {σ : L2.St} {s : Shared} {a : Addr} {t : Bool} {ks : List (D × D)} (I : Inv X pins σ H s) (ex : Ex F H) (hd : DicO (bx X) F a t ks (H a)) : s.TypeIs (.ref a) "dict" := by
  rcases hd with ⟨rfl, kv, ob, e, rk⟩ | ⟨rfl, xs, ob, e, rk⟩
  · obtain ⟨_, z, hs, vs, rel, dd⟩ := dk_at I e
    exact dd.typeIs
  · obtain ⟨dd, hs, z, _⟩ := raw_at I ex e rk
    exact dd.typeIs
theorem dx_bare {F H : Hp} {pins : List (Addr × Obj)} {σ : L2.St} {s : Shared} {a : Addr} {t : Bool} {ks : List (D × D)} (I : Inv X pins σ H s) (ex : Ex F H) (hd : DicO (bx X) F a t ks (H a)) : ∀ b, Value.ref a = .ref b → ∃ ob, s.heap.get? b = some ob ∧ ob.dict = none := by
  intro b e
  cases e
  rcases hd with ⟨rfl, kv, ob, e, rk⟩ | ⟨rfl, xs, ob, e, rk⟩
  · obtain ⟨_, z, hs, vs, rel, o, es, ep, ho, hx, r⟩ := dk_at I e
    exact ⟨o, ho, hx.2.1⟩
  · obtain ⟨⟨o, es, ep, ho, hx, r⟩, hs, z, _⟩ := raw_at I ex e rk
    exact ⟨o, ho, hx.2.1⟩
def rIxX (B : Bx) : R2 := fun x y H Q => ∃ F a t ks k d, Ex F H ∧ x = .ref a ∧ DicO B F a t ks (H a) ∧ Rp B F y k ∧ kOkB t k = true ∧ getK ks k = some d ∧ ∀ v, Rp B F v d → Q v H
theorem ix_dic (hr : Room j X.A) : IxR X (rIxX (bx X)) := by
  intro value slice pins s σ H x y v u Q I rx ry h hs
  obtain ⟨F, a, t, ks, k, d, ex, rfl, hd, hk, ko, hg, q⟩ := h
  cases rx
  exact tail_any (dx_type I ex hd) slot_dict_getitem.lookup (dx_item hr I ex hd hk ko ry hg fun v w' s' I' rw' rv => ⟨v, H, I', rw', q v rv⟩) hs
def rLenX (B : Bx) : List V → Hp → VK → Prop := fun xs H Q => ∃ F a t ks, Ex F H ∧ xs = [.ref a] ∧ DicO B F a t ks (H a) ∧ Q (.int ks.length) H
theorem call_lenX : CallR X (.builtin "len") (rLenX (bx X)) := by
  intro pins s σ H xs us Q I r h
  obtain ⟨F, a, t, ks, ex, rfl, hd, q⟩ := h
  obtain ⟨u, rfl, rx⟩ := r.one
  cases rx
  exact dx_len I ex hd fun tk s' I' => ⟨.int ks.length, H, I', ⟨tk, rfl⟩, q⟩
end
end Z

namespace Z
open PySem PySem.Spec PyProof.Rows L2
open Evl (Ex)
section
variable {X : Cx} {wx : WX} {e a b c : Expr} {es rest : List Expr} {T Ta Tb Tc : DTE} {pos : Pos} {U U' : DTT}

/-! ### comparisons -/
theorem de_cmp {op : CmpOp} {r : R2} {o : OpD} (ho : OpR X (compareOp op) r) (hr : RfO (bx X) r o) (ha : DR X wx a Ta) (hb : DR X wx b Tb) (hm : behindInMarks op b = false) : DE X wx (.Compare a [op] [b] pos) (dOp o Ta Tb) := by
  obtain ⟨ta, pa, ra⟩ := ha
  obtain ⟨tb, pb, rb⟩ := hb
  exact ⟨_, pe_cmpR ho pa pb hm, rf_op ra rb hr⟩
/-- a value that is a truth, as a test -/
def dTst (T : DTE) : DTT := fun ρ M Q E => T ρ M (fun x M' => match x with | .bl k => Q k M' | _ => False) E
theorem rf_tst {B : Bx} {t : TE} (h : RfE B wx t T) : RfT B wx (tTest t) (dTst T) := fun W0 W m σ ρ M Q Qd Ed R k h1 h2 h3 => by
  refine h W0 W m σ ρ M _ _ Ed R k h1 (fun d v W' m' M' q le k' hv => ?_) h3
  cases d with
  | bl k => cases hv; exact ⟨k, rfl, h2 k W' m' M' q le k'⟩
  | _ => exact q.elim
theorem dt_cmp {op : CmpOp} {r : R2} {o : OpD} (ho : OpR X (compareOp op) r) (hr : RfO (bx X) r o) (ha : DR X wx a Ta) (hb : DR X wx b Tb) (hm : behindInMarks op b = false) : DT X wx (.Compare a [op] [b] pos) (dTst (dOp o Ta Tb)) := by
  obtain ⟨ta, pa, ra⟩ := ha
  obtain ⟨tb, pb, rb⟩ := hb
  exact ⟨_, pt_cmpR ho pa pb hm, rf_tst (rf_op ra rb hr)⟩
/-- a op b op' c -/
def dChain (o o' : OpD) (a b c : DTE) : DTE := fun ρ M Q E => a ρ M (fun x M1 => b ρ M1 (fun y M2 => o (drf M2 x) (drf M2 y) fun z => match z with
  | .bl k => if k = true then c ρ M2 (fun w M3 => o' (drf M3 y) (drf M3 w) fun d => Q d M3) E else Q (.bl false) M2
  | _ => False) E) E
theorem rf_chain {B : Bx} {ta tb tc : TE} {r r' : R2} {o o' : OpD} (ha : RfR B wx ta Ta) (hb : RfR B wx tb Tb) (hc : RfR B wx tc Tc) (hr : RfO B r o) (hr' : RfO B r' o') : RfE B wx (tChain r r' ta tb tc) (dChain o o' Ta Tb Tc) := fun W0 W m σ ρ M Q Qd Ed R k h1 h2 h3 => by
  refine ha W0 W m σ ρ M _ _ Ed R k h1 (fun d v W' m' M' q le k' hv => ?_) h3
  refine hb W0 W' m' σ ρ M' _ _ Ed (R.mono le) k' q (fun d2 v2 W'' m'' M'' q2 le2 k'' hv2 => ?_) (h3.up le)
  refine hr W'' m'' M'' v v2 _ _ _ _ k'' ((hv.le le2).drf k'') (hv2.drf k'') q2 fun d3 v3 W3 q3 le3 k3 hv3 => ?_
  cases d3 with
  | bl k =>
    cases hv3
    refine ⟨k, rfl, ?_⟩
    cases k with
    | false => exact h2 _ _ W3 m'' M'' q3 ((le.trans le2).trans le3) k3 (.bl _)
    | true =>
      refine hc W0 W3 m'' σ ρ M'' _ _ Ed (R.mono ((le.trans le2).trans le3)) k3 q3 (fun d4 v4 W4 m4 M4 q4 le4 k4 hv4 => ?_) (h3.up ((le.trans le2).trans le3))
      exact hr' W4 m4 M4 v2 v4 _ _ Q _ k4 ((hv2.le (le3.trans le4)).drf k4) (hv4.drf k4) q4 fun d5 v5 W5 q5 le5 k5 hv5 => h2 d5 v5 W5 m4 M4 q5 ((((le.trans le2).trans le3).trans le4).trans le5) k5 hv5
  | _ => exact q3.elim
theorem de_chain {op op' : CmpOp} {r r' : R2} {o o' : OpD} (ho : OpR X (compareOp op) r) (hr : RfO (bx X) r o) (ho' : OpR X (compareOp op') r') (hr' : RfO (bx X) r' o') (ha : DR X wx a Ta) (hb : DR X wx b Tb) (hc : DR X wx c Tc)
    (hm : lastMarks [op, op'] [b, c] = false := by with_unfolding_all rfl) : DE X wx (.Compare a [op, op'] [b, c] pos) (dChain o o' Ta Tb Tc) := by
  obtain ⟨ta, pa, ra⟩ := ha
  obtain ⟨tb, pb, rb⟩ := hb
  obtain ⟨tc, pc, rc⟩ := hc
  exact ⟨_, pe_chain ho ho' pa pb pc hm, rf_chain ra rb rc hr hr'⟩
theorem dt_chain {op op' : CmpOp} {r r' : R2} {o o' : OpD} (ho : OpR X (compareOp op) r) (hr : RfO (bx X) r o) (ho' : OpR X (compareOp op') r') (hr' : RfO (bx X) r' o') (ha : DR X wx a Ta) (hb : DR X wx b Tb) (hc : DR X wx c Tc)
    (hm : lastMarks [op, op'] [b, c] = false := by with_unfolding_all rfl) : DT X wx (.Compare a [op, op'] [b, c] pos) (dTst (dChain o o' Ta Tb Tc)) := by
  obtain ⟨ta, pa, ra⟩ := ha
  obtain ⟨tb, pb, rb⟩ := hb
  obtain ⟨tc, pc, rc⟩ := hc
  exact ⟨_, pt_chain ho ho' pa pb pc hm, rf_tst (rf_chain ra rb rc hr hr')⟩
def oLt (x y : D) (Q : D → Prop) : Prop := match x, y with
  | .int i, .int j => Q (.bl (decide (i < j)))
  | _, _ => False
def oLe (x y : D) (Q : D → Prop) : Prop := match x, y with
  | .int i, .int j => Q (.bl (decide (i ≤ j)))
  | _, _ => False
def oGt (x y : D) (Q : D → Prop) : Prop := match x, y with
  | .int i, .int j => Q (.bl (decide (j < i)))
  | _, _ => False
def oGe (x y : D) (Q : D → Prop) : Prop := match x, y with
  | .int i, .int j => Q (.bl (decide (j ≤ i)))
  | _, _ => False
theorem rf_lt {B : Bx} : RfO B (rI0 fun i j => .bl (decide (i < j))) oLt := rf_int0 (gd := fun i j => .bl (decide (i < j))) (fun _ _ _ => .bl _) fun x y Q h => by
  unfold oLt at h
  split at h
  · exact ⟨_, _, rfl, rfl, h⟩
  · exact h.elim
theorem rf_le {B : Bx} : RfO B (rI0 fun i j => .bl (decide (i ≤ j))) oLe := rf_int0 (gd := fun i j => .bl (decide (i ≤ j))) (fun _ _ _ => .bl _) fun x y Q h => by
  unfold oLe at h
  split at h
  · exact ⟨_, _, rfl, rfl, h⟩
  · exact h.elim
theorem rf_gt {B : Bx} : RfO B (rI0 fun i j => .bl (decide (j < i))) oGt := rf_int0 (gd := fun i j => .bl (decide (j < i))) (fun _ _ _ => .bl _) fun x y Q h => by
  unfold oGt at h
  split at h
  · exact ⟨_, _, rfl, rfl, h⟩
  · exact h.elim
theorem rf_ge {B : Bx} : RfO B (rI0 fun i j => .bl (decide (j ≤ i))) oGe := rf_int0 (gd := fun i j => .bl (decide (j ≤ i))) (fun _ _ _ => .bl _) fun x y Q h => by
  unfold oGe at h
  split at h
  · exact ⟨_, _, rfl, rfl, h⟩
  · exact h.elim
/-- is None -/
def D.isNon : D → Bool
  | .non => true
  | _ => false
def oIsN (x y : D) (Q : D → Prop) : Prop := y = .non ∧ Q (.bl x.isNon)
def oNotN (x y : D) (Q : D → Prop) : Prop := y = .non ∧ Q (.bl (!x.isNon))
theorem isNon_of {B : Bx} {F H : Hp} {x : V} {d : D} (h : RpR B F H x d) : decide (x = V.non) = d.isNon := by
  cases d with
  | non => cases h; rfl
  | lst _ => obtain ⟨a, vs, rfl, _⟩ := h; rfl
  | obj _ _ => obtain ⟨a, dx, vs, rfl, _⟩ := h; rfl
  | dic _ _ => obtain ⟨a, rfl, _⟩ := h; rfl
  | _ => cases h <;> rfl
theorem rf_isN {B : Bx} : RfO B (fun x y H Q => y = .non ∧ Q (.bl (decide (x = .non))) H) oIsN := by
  intro W m M x y dx dy Q Qd mk rx ry h k
  obtain ⟨rfl, q⟩ := h
  cases ry
  refine ⟨rfl, ?_⟩
  rw [isNon_of rx]
  exact k _ _ W q (Wd.le.refl W) mk (.bl _)
theorem rf_notN {B : Bx} : RfO B (fun x y H Q => y = .non ∧ Q (.bl (!decide (x = .non))) H) oNotN := by
  intro W m M x y dx dy Q Qd mk rx ry h k
  obtain ⟨rfl, q⟩ := h
  cases ry
  refine ⟨rfl, ?_⟩
  rw [isNon_of rx]
  exact k _ _ W q (Wd.le.refl W) mk (.bl _)

/-! ### == of data -/
mutual
def D.py : D → PyData
  | .non => .none
  | .bl b => .bool b
  | .int i => .int i
  | .str x => .str x
  | .lst xs => .list (pyL xs)
  | .tup xs => .tuple (pyL xs)
  | _ => .dict []
def pyL : List D → List PyData
  | [] => []
  | x :: xs => x.py :: pyL xs
end
mutual
theorem Rp.dp {B : Bx} {F H : Hp} (ok : Ex F H) : ∀ {v : V} {d : D}, Rp B F v d → PyData.canLay0 d.py = true → Dp B.K H v d.py
  | _, _, .non, _ => .non
  | _, _, .bl b, _ => .bl b
  | _, _, .int i, _ => .int i
  | _, _, .str x, _ => .str x
  | _, _, .lst h a, c => .lst (Evl.ex_l ok h) (RpAll.dp ok a (by simpa [D.py, PyData.canLay0] using c))
  | _, _, .tup h a, c => .tup (Evl.ex_t ok h) (RpAll.dp ok a (by simpa [D.py, PyData.canLay0] using c))
  | _, _, .ty n, c => by simp [D.py, PyData.canLay0] at c
  | _, _, .ref a, c => by simp [D.py, PyData.canLay0] at c
  | _, _, .obj h a, c => by simp [D.py, PyData.canLay0] at c
  | _, _, .exc h, c => by simp [D.py, PyData.canLay0] at c
  | _, _, .dic h a, c => by simp [D.py, PyData.canLay0] at c
  | _, _, .dit h a, c => by simp [D.py, PyData.canLay0] at c
  | _, _, .cls n, c => by simp [D.py, PyData.canLay0] at c
theorem RpAll.dp {B : Bx} {F H : Hp} (ok : Ex F H) : ∀ {v : List V} {d : List D}, RpAll B F v d → PyData.canLayAll0 (pyL d) = true → DpAll B.K H v (pyL d)
  | _, _, .nil, _ => .nil
  | _, _, .cons h t, c => by
    have c' := c
    simp only [pyL, PyData.canLayAll0, Bool.and_eq_true] at c'
    exact .cons (Rp.dp ok h c'.1) (RpAll.dp ok t c'.2)
end
theorem RpR.dp {B : Bx} {F H : Hp} (ok : Ex F H) {v : V} {d : D} (h : RpR B F H v d) (c : PyData.canLay0 d.py = true) : Dp B.K H v d.py := by
  cases d with
  | lst ds => obtain ⟨a, vs, rfl, h1, h2⟩ := h; exact .lst h1 (h2.dp ok (by simpa [D.py, PyData.canLay0] using c))
  | obj C fs => simp [D.py, PyData.canLay0] at c
  | dic _ ks => simp [D.py, PyData.canLay0] at c
  | non => exact Rp.dp ok h c
  | bl _ => exact Rp.dp ok h c
  | int _ => exact Rp.dp ok h c
  | str _ => exact Rp.dp ok h c
  | ty _ => exact Rp.dp ok h c
  | ref _ => exact Rp.dp ok h c
  | cls _ => exact Rp.dp ok h c
  | tup _ => exact Rp.dp ok h c
  | exc _ => exact Rp.dp ok h c
/-- ==: plain data alike to scalars are decided at once -/
def oEqB (x y : D) (Q : Bool → Prop) : Prop := match x, y with
  | .int i, .int j => Q (decide (i = j))
  | .str a, .str b => Q (decide (a = b))
  | .bl a, .bl b => Q (decide (a = b))
  | .non, .non => Q true
  | .non, .int _ => Q false
  | .int _, .non => Q false
  | .non, .str _ => Q false
  | .str _, .non => Q false
  | x, y => SeqAt.shaped x.py = true ∧ SeqAt.shaped y.py = true ∧ Q (PyData.eqv x.py y.py)
def oEq (x y : D) (Q : D → Prop) : Prop := oEqB x y fun b => Q (.bl b)
def oNe (x y : D) (Q : D → Prop) : Prop := oEqB x y fun b => Q (.bl (!b))
theorem rf_eq {B : Bx} : RfO B (fun x y H Q => rEq x y H Q ∨ rEqD B.K x y H Q) oEq := by
  intro W m M x y dx dy Q Qd mk rx ry h k
  have ok := W.ok.trans (cat_ex W.H m)
  unfold oEq oEqB at h
  split at h
  · cases rx; cases ry
    refine .inl ⟨rfl, ?_⟩
    rename_i i j
    have e : decide (V.int i = V.int j) = decide (i = j) := by simp
    rw [e]; exact k _ _ W h (Wd.le.refl W) mk (.bl _)
  · cases rx; cases ry
    refine .inl ⟨rfl, ?_⟩
    rename_i i j
    have e : decide (V.str i = V.str j) = decide (i = j) := by simp
    rw [e]; exact k _ _ W h (Wd.le.refl W) mk (.bl _)
  · cases rx; cases ry
    refine .inl ⟨rfl, ?_⟩
    rename_i i j
    have e : decide (V.bl i = V.bl j) = decide (i = j) := by simp
    rw [e]; exact k _ _ W h (Wd.le.refl W) mk (.bl _)
  · cases rx; cases ry
    exact .inl ⟨rfl, k _ _ W h (Wd.le.refl W) mk (.bl _)⟩
  · cases rx; cases ry
    exact .inl ⟨rfl, k _ _ W h (Wd.le.refl W) mk (.bl _)⟩
  · cases rx; cases ry
    exact .inl ⟨rfl, k _ _ W h (Wd.le.refl W) mk (.bl _)⟩
  · cases rx; cases ry
    exact .inl ⟨rfl, k _ _ W h (Wd.le.refl W) mk (.bl _)⟩
  · cases rx; cases ry
    exact .inl ⟨rfl, k _ _ W h (Wd.le.refl W) mk (.bl _)⟩
  · obtain ⟨s1, s2, q⟩ := h
    exact .inr ⟨_, _, rx.dp ok (SeqAt.canLay_of_shaped s1), ry.dp ok (SeqAt.canLay_of_shaped s2), s1, s2, k _ _ W q (Wd.le.refl W) mk (.bl _)⟩
theorem rf_ne {B : Bx} : RfO B (fun x y H Q => rNe x y H Q ∨ rNeD B.K x y H Q) oNe := by
  intro W m M x y dx dy Q Qd mk rx ry h k
  have ok := W.ok.trans (cat_ex W.H m)
  unfold oNe oEqB at h
  split at h
  · cases rx; cases ry
    refine .inl ⟨rfl, ?_⟩
    rename_i i j
    have e : decide (V.int i = V.int j) = decide (i = j) := by simp
    rw [e]; exact k _ _ W h (Wd.le.refl W) mk (.bl _)
  · cases rx; cases ry
    refine .inl ⟨rfl, ?_⟩
    rename_i i j
    have e : decide (V.str i = V.str j) = decide (i = j) := by simp
    rw [e]; exact k _ _ W h (Wd.le.refl W) mk (.bl _)
  · cases rx; cases ry
    refine .inl ⟨rfl, ?_⟩
    rename_i i j
    have e : decide (V.bl i = V.bl j) = decide (i = j) := by simp
    rw [e]; exact k _ _ W h (Wd.le.refl W) mk (.bl _)
  · cases rx; cases ry
    exact .inl ⟨rfl, k _ _ W h (Wd.le.refl W) mk (.bl _)⟩
  · cases rx; cases ry
    exact .inl ⟨rfl, k _ _ W h (Wd.le.refl W) mk (.bl _)⟩
  · cases rx; cases ry
    exact .inl ⟨rfl, k _ _ W h (Wd.le.refl W) mk (.bl _)⟩
  · cases rx; cases ry
    exact .inl ⟨rfl, k _ _ W h (Wd.le.refl W) mk (.bl _)⟩
  · cases rx; cases ry
    exact .inl ⟨rfl, k _ _ W h (Wd.le.refl W) mk (.bl _)⟩
  · obtain ⟨s1, s2, q⟩ := h
    exact .inr ⟨_, _, rx.dp ok (SeqAt.canLay_of_shaped s1), ry.dp ok (SeqAt.canLay_of_shaped s2), s1, s2, k _ _ W q (Wd.le.refl W) mk (.bl _)⟩
theorem op_eqA {k : Nat} (hr : Room k X.A) : OpR X (compareOp .Eq) (fun x y H Q => rEq x y H Q ∨ rEqD X.K x y H Q) := op_eq.or (op_eqD hr.units)
theorem op_neA {k : Nat} (hr : Room k X.A) : OpR X (compareOp .NotEq) (fun x y H Q => rNe x y H Q ∨ rNeD X.K x y H Q) := op_ne.or (op_neD hr.units)

/-! ### in -/
def flatD : D → Bool
  | .int _ => true
  | .str _ => true
  | _ => false
def eqF : D → D → Bool
  | .int i, .int j => decide (i = j)
  | .str i, .str j => decide (i = j)
  | _, _ => false
def inD (x : D) (xs : List D) : Bool := xs.any fun y => eqF y x
def oInB (x y : D) (Q : Bool → Prop) : Prop := match x, y with
  | .str a, .str b => ∃ c : Nat, a = ⟨#[c]⟩ ∧ Q (decide (c ∈ b.cps.toList))
  | x, .lst ys => flatD x = true ∧ ys.all flatD = true ∧ Q (inD x ys)
  | x, .tup ys => flatD x = true ∧ ys.all flatD = true ∧ Q (inD x ys)
  | x, .dic t ks => kOkB t x = true ∧ Q (getK ks x).isSome
  | _, _ => False
def oIn (x y : D) (Q : D → Prop) : Prop := oInB x y fun b => Q (.bl b)
def oNotIn (x y : D) (Q : D → Prop) : Prop := oInB x y fun b => Q (.bl (!b))
theorem flat_of {B : Bx} {F : Hp} {v : V} {d : D} (h : Rp B F v d) (f : flatD d = true) : (∃ i, d = .int i ∧ v = .int i) ∨ ∃ x, d = .str x ∧ v = .str x := by
  cases d with
  | int i => cases h; exact .inl ⟨i, rfl, rfl⟩
  | str x => cases h; exact .inr ⟨x, rfl, rfl⟩
  | _ => cases f
theorem flatR_of {B : Bx} {F H : Hp} {v : V} {d : D} (h : RpR B F H v d) (f : flatD d = true) : Rp B F v d := by
  cases d with
  | int i => exact h
  | str x => exact h
  | _ => cases f
theorem flat_V {B : Bx} {F : Hp} {v : V} {d : D} (h : Rp B F v d) (f : flatD d = true) : flatV v = true := by
  rcases flat_of h f with ⟨i, rfl, rfl⟩ | ⟨i, rfl, rfl⟩ <;> rfl
theorem eqF_of {B : Bx} {F : Hp} {v w : V} {d e : D} (h : Rp B F v d) (h' : Rp B F w e) (f : flatD d = true) (f' : flatD e = true) : eqV v w = eqF d e := by
  rcases flat_of h f with ⟨i, rfl, rfl⟩ | ⟨i, rfl, rfl⟩ <;> rcases flat_of h' f' with ⟨j, rfl, rfl⟩ | ⟨j, rfl, rfl⟩ <;> first | (simp [eqV, eqF]; done) | (show (_ == _) = decide _; rw [Bool.eq_iff_iff]; simp)
theorem inD_of {B : Bx} {F : Hp} {v : V} {d : D} (h : Rp B F v d) (f : flatD d = true) : ∀ {vs : List V} {ds : List D}, RpAll B F vs ds → ds.all flatD = true → vs.all flatV = true ∧ inV v vs = inD d ds
  | _, _, .nil, _ => ⟨rfl, rfl⟩
  | _, _, .cons r t, c => by
    have c' := c
    simp only [List.all_cons, Bool.and_eq_true] at c'
    obtain ⟨h1, h2⟩ := inD_of h f t c'.2
    refine ⟨by simp [List.all_cons, flat_V r c'.1, h1], ?_⟩
    unfold inV inD at h2 ⊢
    rw [List.any_cons, List.any_cons, h2, eqF_of r h c'.1 f]
theorem rf_inB {B : Bx} {neg : Bool} {r1 : R2} {o : OpD} (ho : ∀ x y Q, o x y Q → oInB x y fun b => Q (.bl (if neg then !b else b)))
    (h1 : ∀ (c : Nat) (z : Str) H (Q : VK), Q (.bl (if neg then !decide (c ∈ z.cps.toList) else decide (c ∈ z.cps.toList))) H → r1 (.str ⟨#[c]⟩) (.str z) H Q) : RfO B (fun x y H Q => r1 x y H Q ∨ rIn B.K neg x y H Q ∨ rInX B neg x y H Q) o := by
  intro W m M x y dx dy Q Qd mk rx ry h k
  have h := ho _ _ _ h
  unfold oInB at h
  split at h
  · obtain ⟨c, rfl, q⟩ := h
    cases rx; cases ry
    exact .inl (h1 c _ _ _ (k _ _ W q (Wd.le.refl W) mk (.bl _)))
  · obtain ⟨f, g, q⟩ := h
    obtain ⟨a, vs, rfl, h3, h4⟩ := ry
    obtain ⟨i1, i2⟩ := inD_of (flatR_of rx f) f h4 g
    refine .inr (.inl ⟨a, vs, rfl, .inl h3, flat_V (flatR_of rx f) f, i1, ?_⟩)
    rw [i2]
    exact k _ _ W q (Wd.le.refl W) mk (.bl _)
  · obtain ⟨f, g, q⟩ := h
    cases ry with
    | tup h3 h4 =>
      obtain ⟨i1, i2⟩ := inD_of (flatR_of rx f) f h4 g
      refine .inr (.inl ⟨_, _, rfl, .inr (Evl.ex_t (W.ok.trans (cat_ex W.H m)) h3), flat_V (flatR_of rx f) f, i1, ?_⟩)
      rw [i2]
      exact k _ _ W q (Wd.le.refl W) mk (.bl _)
  · obtain ⟨f, q⟩ := h
    obtain ⟨a, rfl, h3⟩ := ry
    exact .inr (.inr ⟨W.F, a, _, _, _, W.ok.trans (cat_ex W.H m), rfl, h3, rx.key f, f, k _ _ W q (Wd.le.refl W) mk (.bl _)⟩)
  · exact h.elim
theorem rf_in {B : Bx} : RfO B (fun x y H Q => (∃ (c : Nat) (z : Str), x = .str ⟨#[c]⟩ ∧ y = .str z ∧ Q (.bl (decide (c ∈ z.cps.toList))) H) ∨ rIn B.K false x y H Q ∨ rInX B false x y H Q) oIn :=
  rf_inB (neg := false) (fun x y Q h => h) fun c z H Q q => ⟨c, z, rfl, rfl, q⟩
theorem rf_notIn {B : Bx} : RfO B (fun x y H Q => (∃ (c : Nat) (z : Str), x = .str ⟨#[c]⟩ ∧ y = .str z ∧ Q (.bl (!decide (c ∈ z.cps.toList))) H) ∨ rIn B.K true x y H Q ∨ rInX B true x y H Q) oNotIn :=
  rf_inB (neg := true) (fun x y Q h => h) fun c z H Q q => ⟨c, z, rfl, rfl, q⟩
theorem op_inA {k : Nat} (hr : Room k X.A) : OpR X (compareOp .In) (fun x y H Q => (∃ (c : Nat) (z : Str), x = .str ⟨#[c]⟩ ∧ y = .str z ∧ Q (.bl (decide (c ∈ z.cps.toList))) H) ∨ rIn X.K false x y H Q ∨ rInX (bx X) false x y H Q) := op_in_sign.or (op_in_seq.or (op_inX hr))
theorem op_notInA {k : Nat} (hr : Room k X.A) : OpR X (compareOp .NotIn) (fun x y H Q => (∃ (c : Nat) (z : Str), x = .str ⟨#[c]⟩ ∧ y = .str z ∧ Q (.bl (!decide (c ∈ z.cps.toList))) H) ∨ rIn X.K true x y H Q ∨ rInX (bx X) true x y H Q) := op_notIn_sign.or (op_notIn_seq.or (op_notInX hr))

/-! ### and, or, not -/
def dAndT (t u : DTT) : DTT := fun ρ M Q E => t ρ M (fun c M' => if c = true then u ρ M' Q E else Q false M') E
def dOrT (t u : DTT) : DTT := fun ρ M Q E => t ρ M (fun c M' => if c = true then Q true M' else u ρ M' Q E) E
def dNotT (t : DTT) : DTT := fun ρ M Q E => t ρ M (fun c => Q (!c)) E
theorem dw_and1 (ha : DT X wx a U) : DW X wx (.BoolOp .And [a] pos) U := by
  obtain ⟨t, p, r⟩ := ha
  exact ⟨_, pw_and1 p, r⟩
theorem dw_or1 (ha : DT X wx a U) : DW X wx (.BoolOp .Or [a] pos) U := by
  obtain ⟨t, p, r⟩ := ha
  exact ⟨_, pw_or1 p, r⟩
theorem dw_and (ha : DT X wx a U) (hb : DW X wx (.BoolOp .And (b :: rest) pos) U') : DW X wx (.BoolOp .And (a :: b :: rest) pos) (dAndT U U') := by
  obtain ⟨t, p, r⟩ := ha
  obtain ⟨t', p', r'⟩ := hb
  refine ⟨_, pw_and p p', fun W0 W m σ ρ M Q Qd Ed R k h1 h2 h3 => r W0 W m σ ρ M _ _ Ed R k h1 (fun c W' m' M' q le k' => ?_) h3⟩
  cases c with
  | true => exact r' W0 W' m' σ ρ M' _ _ Ed (R.mono le) k' q (fun c' W'' m'' M'' q2 le2 => h2 c' W'' m'' M'' q2 (le.trans le2)) (h3.up le)
  | false => exact h2 false W' m' M' q le k'
theorem dw_or (ha : DT X wx a U) (hb : DW X wx (.BoolOp .Or (b :: rest) pos) U') : DW X wx (.BoolOp .Or (a :: b :: rest) pos) (dOrT U U') := by
  obtain ⟨t, p, r⟩ := ha
  obtain ⟨t', p', r'⟩ := hb
  refine ⟨_, pw_or p p', fun W0 W m σ ρ M Q Qd Ed R k h1 h2 h3 => r W0 W m σ ρ M _ _ Ed R k h1 (fun c W' m' M' q le k' => ?_) h3⟩
  cases c with
  | false => exact r' W0 W' m' σ ρ M' _ _ Ed (R.mono le) k' q (fun c' W'' m'' M'' q2 le2 => h2 c' W'' m'' M'' q2 (le.trans le2)) (h3.up le)
  | true => exact h2 true W' m' M' q le k'
theorem DW.t (h : DW X wx a U) : DT X wx a U := by
  obtain ⟨t, p, r⟩ := h
  exact ⟨_, p.pt, r⟩
theorem dt_not (ha : DT X wx a U) : DT X wx (.UnaryOp .Not a pos) (dNotT U) := by
  obtain ⟨t, p, r⟩ := ha
  exact ⟨_, pt_not p, fun W0 W m σ ρ M Q Qd Ed R k h1 h2 h3 => r W0 W m σ ρ M _ _ Ed R k h1 (fun c W' m' M' q le k' => h2 (!c) W' m' M' q le k') h3⟩
/-- .. as values -/
def dAndV (t u : DTE) : DTE := fun ρ M Q E => t ρ M (fun x M' => match x with | .bl c => if c = true then u ρ M' Q E else Q (.bl false) M' | _ => False) E
def dOrV (t u : DTE) : DTE := fun ρ M Q E => t ρ M (fun x M' => match x with | .bl c => if c = true then Q (.bl true) M' else u ρ M' Q E | _ => False) E
def dNotV (t : DTE) : DTE := fun ρ M Q E => t ρ M (fun x M' => match x with | .bl c => Q (.bl (!c)) M' | _ => False) E
theorem de_one {op} (h : DE X wx a T) : DE X wx (.BoolOp op [a] pos) T := by
  obtain ⟨t, p, r⟩ := h
  exact ⟨_, pe_one p, r⟩
theorem de_and (ha : DE X wx a Ta) (hb : DE X wx (.BoolOp .And (b :: rest) pos) Tb) : DE X wx (.BoolOp .And (a :: b :: rest) pos) (dAndV Ta Tb) := by
  obtain ⟨t, p, r⟩ := ha
  obtain ⟨t', p', r'⟩ := hb
  refine ⟨_, pe_and p p', fun W0 W m σ ρ M Q Qd Ed R k h1 h2 h3 => r W0 W m σ ρ M _ _ Ed R k h1 (fun d v W' m' M' q le k' hv => ?_) h3⟩
  cases d with
  | bl c =>
    cases hv
    refine ⟨c, rfl, ?_⟩
    cases c with
    | true => exact r' W0 W' m' σ ρ M' _ _ Ed (R.mono le) k' q (fun c' v' W'' m'' M'' q2 le2 => h2 c' v' W'' m'' M'' q2 (le.trans le2)) (h3.up le)
    | false => exact h2 _ _ W' m' M' q le k' (.bl _)
  | _ => exact q.elim
theorem de_or (ha : DE X wx a Ta) (hb : DE X wx (.BoolOp .Or (b :: rest) pos) Tb) : DE X wx (.BoolOp .Or (a :: b :: rest) pos) (dOrV Ta Tb) := by
  obtain ⟨t, p, r⟩ := ha
  obtain ⟨t', p', r'⟩ := hb
  refine ⟨_, pe_or p p', fun W0 W m σ ρ M Q Qd Ed R k h1 h2 h3 => r W0 W m σ ρ M _ _ Ed R k h1 (fun d v W' m' M' q le k' hv => ?_) h3⟩
  cases d with
  | bl c =>
    cases hv
    refine ⟨c, rfl, ?_⟩
    cases c with
    | false => exact r' W0 W' m' σ ρ M' _ _ Ed (R.mono le) k' q (fun c' v' W'' m'' M'' q2 le2 => h2 c' v' W'' m'' M'' q2 (le.trans le2)) (h3.up le)
    | true => exact h2 _ _ W' m' M' q le k' (.bl _)
  | _ => exact q.elim
theorem de_not (ha : DE X wx a Ta) : DE X wx (.UnaryOp .Not a pos) (dNotV Ta) := by
  obtain ⟨t, p, r⟩ := ha
  refine ⟨_, pe_not p, fun W0 W m σ ρ M Q Qd Ed R k h1 h2 h3 => r W0 W m σ ρ M _ _ Ed R k h1 (fun d v W' m' M' q le k' hv => ?_) h3⟩
  cases d with
  | bl c => cases hv; exact ⟨c, rfl, h2 _ _ W' m' M' q le k' (.bl _)⟩
  | _ => exact q.elim
def dIfE (t : DTT) (a b : DTE) : DTE := fun ρ M Q E => t ρ M (fun c M' => if c = true then a ρ M' Q E else b ρ M' Q E) E
theorem de_ifE (hc : DT X wx c U) (ha : DE X wx a Ta) (hb : DE X wx b Tb) : DE X wx (.IfExp c a b pos) (dIfE U Ta Tb) := by
  obtain ⟨t, p, r⟩ := hc
  obtain ⟨ta, pa, ra⟩ := ha
  obtain ⟨tb, pb, rb⟩ := hb
  refine ⟨_, pe_ifExp p pa pb, fun W0 W m σ ρ M Q Qd Ed R k h1 h2 h3 => r W0 W m σ ρ M _ _ Ed R k h1 (fun c W' m' M' q le k' => ?_) h3⟩
  cases c with
  | true => exact ra W0 W' m' σ ρ M' _ _ Ed (R.mono le) k' q (fun c' v' W'' m'' M'' q2 le2 => h2 c' v' W'' m'' M'' q2 (le.trans le2)) (h3.up le)
  | false => exact rb W0 W' m' σ ρ M' _ _ Ed (R.mono le) k' q (fun c' v' W'' m'' M'' q2 le2 => h2 c' v' W'' m'' M'' q2 (le.trans le2)) (h3.up le)
/-- the truth of a value -/
def truD (x : D) (Q : Bool → Prop) : Prop := match x with
  | .non => Q false
  | .bl b => Q b
  | .int i => Q (i != 0)
  | .str y => y.length ≤ sizeLine ∧ Q ((y.length : Int) != 0)
  | .lst xs => Q (!xs.isEmpty)
  | .tup xs => Q (!xs.isEmpty)
  | _ => False
def dTru (T : DTE) : DTT := fun ρ M Q E => T ρ M (fun x M' => truD (drf M' x) fun b => Q b M') E
theorem isE_of {B : Bx} {F : Hp} {vs : List V} {ds : List D} (h : RpAll B F vs ds) : vs.isEmpty = ds.isEmpty := by cases h <;> rfl
theorem truD_of {x : D} {Q : Bool → Prop} (h : truD x Q) : (x = .non ∧ Q false) ∨ (∃ b, x = .bl b ∧ Q b) ∨ (∃ i, x = .int i ∧ Q (i != 0)) ∨ (∃ y, x = .str y ∧ y.length ≤ sizeLine ∧ Q ((y.length : Int) != 0)) ∨ (∃ xs, x = .lst xs ∧ Q (!xs.isEmpty)) ∨ (∃ xs, x = .tup xs ∧ Q (!xs.isEmpty)) := by
  unfold truD at h
  split at h
  · exact .inl ⟨rfl, h⟩
  · exact .inr (.inl ⟨_, rfl, h⟩)
  · exact .inr (.inr (.inl ⟨_, rfl, h⟩))
  · exact .inr (.inr (.inr (.inl ⟨_, rfl, h.1, h.2⟩)))
  · exact .inr (.inr (.inr (.inr (.inl ⟨_, rfl, h⟩))))
  · exact .inr (.inr (.inr (.inr (.inr ⟨_, rfl, h⟩))))
  · exact h.elim
theorem dt_tru (ha : DR X wx a Ta) (he : ∀ whole, isTrue a X.env whole = (do let v ← whole; standAt a.pos; holding [v] (truthy v)) := by intro _; rfl) : DT X wx a (dTru Ta) := by
  obtain ⟨t, p, r⟩ := ha
  refine ⟨_, pt_truth p he, fun W0 W m σ ρ M Q Qd Ed R k h1 h2 h3 => r W0 W m σ ρ M _ _ Ed R k h1 (fun d v W' m' M' q le k' hv => ?_) h3⟩
  have hv := hv.drf k'
  have ok := W'.ok.trans (cat_ex W'.H m')
  rcases truD_of q with ⟨e, q⟩ | ⟨b, e, q⟩ | ⟨i, e, q⟩ | ⟨y, e, hz, q⟩ | ⟨xs, e, q⟩ | ⟨xs, e, q⟩ <;> rw [e] at hv
  · cases hv; exact ⟨_, rfl, h2 _ W' m' M' q le k'⟩
  · cases hv; exact ⟨_, rfl, h2 _ W' m' M' q le k'⟩
  · cases hv; exact ⟨_, rfl, h2 _ W' m' M' q le k'⟩
  · cases hv; exact ⟨_, ⟨hz, rfl⟩, h2 _ W' m' M' q le k'⟩
  · obtain ⟨a, vs, rfl, h4, h5⟩ := hv; exact ⟨_, .inl ⟨vs, h4, rfl⟩, by rw [isE_of h5]; exact h2 _ W' m' M' q le k'⟩
  · cases hv with
    | tup h4 h5 => exact ⟨_, .inr (.inl ⟨_, Evl.ex_t ok h4, rfl⟩), by rw [isE_of h5]; exact h2 _ W' m' M' q le k'⟩
end
end Z

namespace Z
open PySem PySem.Spec PyProof.Rows L2
open Evl (Ex)
section
variable {X : Cx} {wx : WX} {e a b c : Expr} {es rest : List Expr} {T Ta Tb Tc : DTE} {pos : Pos} {U U' : DTT}

/-! ### subscripts -/
/-- a[i] of a list, a tuple, a text -/
def oIx (x y : D) (Q : D → Prop) : Prop := match x, y with
  | .lst xs, .int i => ∃ d, atI xs i = some d ∧ Q d
  | .tup xs, .int i => ∃ d, atI xs i = some d ∧ Q d
  | .str z, .int i => z.length ≤ sizeLine ∧ ∃ c, atI z.cps.toList i = some c ∧ Q (.str ⟨#[c]⟩)
  | .dic t ks, k => kOkB t k = true ∧ ∃ d, getK ks k = some d ∧ Q d
  | _, _ => False
theorem atI_of {B : Bx} {F : Hp} {vs : List V} {ds : List D} (h : RpAll B F vs ds) {i : Int} {d : D} (e : atI ds i = some d) : ∃ v, atI vs i = some v ∧ Rp B F v d := by
  unfold atI at e ⊢
  rw [h.length]
  cases q : ixN ds.length i with
  | none => rw [q] at e; cases e
  | some j => rw [q] at e; exact h.get e
theorem rf_ix {B : Bx} : RfO B (fun x y H Q => rIx B.K x y H Q ∨ rIxX B x y H Q) oIx := by
  intro W m M x y dx dy Q Qd mk rx ry h k
  have ok := W.ok.trans (cat_ex W.H m)
  unfold oIx at h
  split at h
  · obtain ⟨d, e, q⟩ := h
    obtain ⟨a, vs, rfl, h1, h2⟩ := rx
    cases ry
    obtain ⟨v, e', r⟩ := atI_of h2 e
    exact .inl (.inl ⟨a, vs, _, v, rfl, rfl, h1, e', k _ _ W q (Wd.le.refl W) mk r⟩)
  · obtain ⟨d, e, q⟩ := h
    cases rx with
    | tup h1 h2 =>
      cases ry
      obtain ⟨v, e', r⟩ := atI_of h2 e
      exact .inl (.inr (.inl ⟨_, _, _, v, rfl, rfl, Evl.ex_t ok h1, e', k _ _ W q (Wd.le.refl W) mk r⟩))
  · obtain ⟨hz, c, e, q⟩ := h
    cases rx
    cases ry
    exact .inl (.inr (.inr ⟨_, _, c, rfl, rfl, hz, e, k _ _ W q (Wd.le.refl W) mk (.str _)⟩))
  · obtain ⟨ko, d, hg, q⟩ := h
    obtain ⟨a, rfl, h1⟩ := rx
    exact .inr ⟨W.F, a, _, _, _, d, ok, rfl, h1, ry.key ko, ko, hg, fun v rv => k _ _ W q (Wd.le.refl W) mk rv⟩
  · exact h.elim
theorem de_ix {j : Nat} (hr : Room j X.A) (ha : DR X wx a Ta) (hb : DR X wx b Tb) (hs : PlainIx b := by exact fun _ _ => rfl) : DE X wx (.Subscript a b pos) (dOp oIx Ta Tb) := by
  obtain ⟨ta, pa, ra⟩ := ha
  obtain ⟨tb, pb, rb⟩ := hb
  exact ⟨_, pe_ix (ix_seq.or (ix_dic hr)) pa pb hs, rf_op ra rb rf_ix⟩

/-! ### slices -/
abbrev DTO := List Ent → Mu → (Option Int → Mu → Prop) → (Str → Mu → Prop) → Prop
def RfP (B : Bx) (wx : WX) (t : TO) (T : DTO) : Prop := ∀ (W0 W : Wd) (m : Hp) (σ : L2.St) (ρ : List Ent) (M : Mu) (Q : Option Int → Hp → Prop) (Qd : Option Int → Mu → Prop) (Ed : Str → Mu → Prop), Rel B W0 W σ ρ → MOk B W M m → T ρ M Qd Ed →
  (∀ o W' m' M', Qd o M' → W.le W' → MOk B W' M' m' → Q o (cat W'.H m')) → ExK B wx W σ Ed → t σ (cat W.H m) Q
def DO (X : Cx) (wx : WX) (e : Option Expr) (T : DTO) : Prop := ∃ t, PO X e t ∧ RfP (bx X) wx t T
def dONone : DTO := fun _ M Q _ => Q none M
def dOSome (T : DTE) : DTO := fun ρ M Q E => T ρ M (fun x M' => match x with | .int i => Q (some i) M' | _ => False) E
theorem do_none : DO X wx none dONone := ⟨_, po_none, fun W0 W m σ ρ M Q Qd Ed R k h1 h2 h3 => h2 none W m M h1 (Wd.le.refl W) k⟩
theorem do_some (he : DR X wx e T) : DO X wx (some e) (dOSome T) := by
  obtain ⟨t, p, r⟩ := he
  refine ⟨_, po_some p, fun W0 W m σ ρ M Q Qd Ed R k h1 h2 h3 => r W0 W m σ ρ M _ _ Ed R k h1 (fun d v W' m' M' q le k' hv => ?_) h3⟩
  cases d with
  | int i => cases hv; exact ⟨i, rfl, h2 _ W' m' M' q le k'⟩
  | _ => exact q.elim
def cutD (xs : List D) (lo hi : Option Int) : List D := (xs.drop (HT.sIx xs.length 0 lo)).take (HT.sIx xs.length xs.length hi - HT.sIx xs.length 0 lo)
theorem cut_of {B : Bx} {F : Hp} {vs : List V} {ds : List D} (h : RpAll B F vs ds) (lo hi : Option Int) : RpAll B F (cutV vs lo hi) (cutD ds lo hi) := by
  unfold cutV cutD
  rw [h.length]
  exact (h.drop _).take _
variable {lo hi : Option Expr} {p2 : Pos} {Tl Th : DTO}
/-- of a list: a new one -/
def oSlL (x : D) (i j : Option Int) (Q : List D → Prop) : Prop := match x with | .lst xs => Q (cutD xs i j) | _ => False
theorem oSlL_of {x : D} {i j : Option Int} {Q : List D → Prop} (h : oSlL x i j Q) : ∃ xs, x = .lst xs ∧ Q (cutD xs i j) := by
  unfold oSlL at h
  split at h
  · exact ⟨_, rfl, h⟩
  · exact h.elim
def dSlL (T : DTE) (l h : DTO) : DTA := fun ρ M Q E => T ρ M (fun x M1 => l ρ M1 (fun i M2 => h ρ M2 (fun j M3 => oSlL (drf M3 x) i j fun ds => Q ds M3) E) E) E
theorem dn_sl (he : DR X wx e T) (hl : DO X wx lo Tl) (hh : DO X wx hi Th) : DN X wx (.Subscript e (.Slice lo hi none p2) pos) (dSlL T Tl Th) := by
  obtain ⟨t, p, r⟩ := he
  obtain ⟨tl, pl, rl⟩ := hl
  obtain ⟨th, ph, rh⟩ := hh
  refine ⟨_, pe_slice sl_list p pl ph, fun W0 W m σ ρ M Q Qd Ed R k h1 h2 h3 => r W0 W m σ ρ M _ _ Ed R k h1 (fun d v W' m' M' q le k' hv => ?_) h3⟩
  refine rl W0 W' m' σ ρ M' _ _ Ed (R.mono le) k' q (fun i W2 m2 M2 q2 le2 k2 => ?_) (h3.up le)
  refine rh W0 W2 m2 σ ρ M2 _ _ Ed (R.mono (le.trans le2)) k2 q2 (fun j W3 m3 M3 q3 le3 k3 => ?_) (h3.up (le.trans le2))
  have hv := (hv.le (le2.trans le3)).drf k3
  obtain ⟨xs, e, q4⟩ := oSlL_of q3
  rw [e] at hv
  obtain ⟨a1, vs1, rfl, s1, r1⟩ := hv
  refine ⟨a1, vs1, rfl, s1, fun p hp => ?_⟩
  exact newO ((le.trans le2).trans le3) k3 hp (cut_of r1 i j) fun W4 l4 k4 h4 h5 h6 h7 => h2 _ p _ W4 m3 M3 q4 l4 k4 h4 h5 h6 h7
/-- of a text or a tuple -/
def oSlS (x : D) (i j : Option Int) (Q : D → Prop) : Prop := match x with
  | .str z => z.length ≤ sizeLine ∧ Q (.str (cutS z i j))
  | .tup xs => Q (.tup (cutD xs i j))
  | .lst xs => Q (.lst (cutD xs i j))
  | _ => False
theorem oSlS_of {x : D} {i j : Option Int} {Q : D → Prop} (h : oSlS x i j Q) : (∃ z, x = .str z ∧ z.length ≤ sizeLine ∧ Q (.str (cutS z i j))) ∨ (∃ xs, x = .tup xs ∧ Q (.tup (cutD xs i j))) ∨ ∃ xs, x = .lst xs ∧ Q (.lst (cutD xs i j)) := by
  unfold oSlS at h
  split at h
  · exact .inl ⟨_, rfl, h.1, h.2⟩
  · exact .inr (.inl ⟨_, rfl, h⟩)
  · exact .inr (.inr ⟨_, rfl, h⟩)
  · exact h.elim
def dSlS (T : DTE) (l h : DTO) : DTE := fun ρ M Q E => T ρ M (fun x M1 => l ρ M1 (fun i M2 => h ρ M2 (fun j M3 => oSlS (drf M3 x) i j fun d => Q d M3) E) E) E
theorem cut_whole (xs : List D) (lo hi : Option Int) (h : HT.sIx xs.length 0 lo = 0 ∧ HT.sIx xs.length xs.length hi = xs.length) : cutD xs lo hi = xs := by
  unfold cutD
  rw [h.1, h.2]
  simp
theorem de_sl (he : DR X wx e T) (hl : DO X wx lo Tl) (hh : DO X wx hi Th) : DE X wx (.Subscript e (.Slice lo hi none p2) pos) (dSlS T Tl Th) := by
  obtain ⟨t, p, r⟩ := he
  obtain ⟨tl, pl, rl⟩ := hl
  obtain ⟨th, ph, rh⟩ := hh
  refine ⟨_, pe_slice (sl_str.or (sl_tupA.or sl_list)) p pl ph, fun W0 W m σ ρ M Q Qd Ed R k h1 h2 h3 => r W0 W m σ ρ M _ _ Ed R k h1 (fun d v W' m' M' q le k' hv => ?_) h3⟩
  refine rl W0 W' m' σ ρ M' _ _ Ed (R.mono le) k' q (fun i W2 m2 M2 q2 le2 k2 => ?_) (h3.up le)
  refine rh W0 W2 m2 σ ρ M2 _ _ Ed (R.mono (le.trans le2)) k2 q2 (fun j W3 m3 M3 q3 le3 k3 => ?_) (h3.up (le.trans le2))
  have hv := (hv.le (le2.trans le3)).drf k3
  have l3 := (le.trans le2).trans le3
  rcases oSlS_of q3 with ⟨z, e, hz, q3⟩ | ⟨xs, e, q3⟩ | ⟨xs, e, q3⟩ <;> rw [e] at hv
  · cases hv; exact .inl ⟨z, rfl, hz, h2 _ _ W3 m3 M3 q3 l3 k3 (.str _)⟩
  · cases hv with
    | tup s1 r1 =>
      rename_i a vs
      refine .inr (.inl ⟨a, vs, rfl, Evl.ex_t (W3.ok.trans (cat_ex W3.H m3)) s1, fun z => ?_, fun z p hp => ?_⟩)
      · rw [r1.length] at z
        rw [cut_whole xs i j z] at q3
        exact h2 _ _ W3 m3 M3 q3 l3 k3 (.tup s1 r1)
      · exact newT k3 hp (cut_of r1 i j) fun W4 l4 k4 r4 => h2 _ _ W4 m3 M3 q3 (l3.trans l4) k4 r4
  · obtain ⟨a1, vs1, rfl, s1, r1⟩ := hv
    exact .inr (.inr ⟨a1, vs1, rfl, s1, fun p hp => newL k3 hp (cut_of r1 i j) fun W4 l4 k4 r4 => h2 _ _ W4 m3 M3 q3 (l3.trans l4) k4 r4⟩)

/-! ### built-in calls -/
def dCB (o : List D → (D → Prop) → Prop) (R : DTA) : DTE := fun ρ M Q E => R ρ M (fun ds M' => o (ds.map (drf M')) fun d => Q d M') E
def RfC (B : Bx) (r : List V → Hp → VK → Prop) (o : List D → (D → Prop) → Prop) : Prop := ∀ (W : Wd) (m : Hp) (M : Mu) (vs : List V) (ds : List D) (Q : VK) (Qd : D → Prop), MOk B W M m → RpRs B W.F (cat W.H m) vs ds → o ds Qd →
  (∀ d v W', Qd d → W.le W' → MOk B W' M m → Rp B W'.F v d → Q v (cat W'.H m)) → r vs (cat W.H m) Q
theorem rf_cb {B : Bx} {ms : List Bool} {t : TA} {R : DTA} {r : List V → Hp → VK → Prop} {o : List D → (D → Prop) → Prop} (h : RfM B wx ms t R) (hr : RfC B r o) : RfE B wx (tCB r t) (dCB o R) := fun W0 W m σ ρ M Q Qd Ed Re k h1 h2 h3 => by
  refine h W0 W m σ ρ M _ _ Ed Re k h1 (fun ds vs W' m' M' q le k' hv => ?_) h3
  exact hr W' m' M' vs _ Q _ k' (hv.reads k') q fun d v W'' q2 le2 k2 hv2 => h2 d v W'' m' M' q2 (le.trans le2) k2 hv2
theorem de_callB {x : Str} {id : String} {r : List V → Hp → VK → Prop} {o : List D → (D → Prop) → Prop} {ms : List Bool} {R : DTA} {p : Pos} (hc : CallR X (.builtin id) r) (hr : RfC (bx X) r o) (hm : X.mg x = none) (ha : DM X wx ms (e :: es) R) (hg : Gl X x := by rfl) (hv : bootBuiltins x = some (.builtin id) := by decide +kernel) (hn : x ≠ "__name__" := by decide) (hdb : (x == ("__debug__" : Str)) = false := by decide)
    (he : starEach (e :: es) X.env = (false, eval e X.env) :: starEach es X.env := by rfl) (hpl : (backTo pos (starEach es X.env)).any (·.1) = false := by rfl) : DE X wx (.Call (.Name x p) (e :: es) [] pos) (dCB o R) := by
  obtain ⟨t, pa, ra⟩ := ha
  exact ⟨_, pe_callB hc hg hm hv pa hn hdb he hpl, rf_cb ra hr⟩
theorem de_callTy {x : Str} {T : String} {r : List V → Hp → VK → Prop} {o : List D → (D → Prop) → Prop} {ms : List Bool} {R : DTA} {p : Pos} (hc : CallR X (.type T) r) (hr : RfC (bx X) r o) (hm : X.mg x = none) (ha : DM X wx ms (e :: es) R) (hg : Gl X x := by rfl) (hv : bootBuiltins x = some (.type T) := by decide +kernel) (hn : x ≠ "__name__" := by decide) (hdb : (x == ("__debug__" : Str)) = false := by decide)
    (he : starEach (e :: es) X.env = (false, eval e X.env) :: starEach es X.env := by rfl) (hpl : (backTo pos (starEach es X.env)).any (·.1) = false := by rfl) : DE X wx (.Call (.Name x p) (e :: es) [] pos) (dCB o R) := by
  obtain ⟨t, pa, ra⟩ := ha
  exact ⟨_, pe_callTy hc hg hm hv pa hn hdb he hpl, rf_cb ra hr⟩
theorem CallR.or {f : Value} {r r' : List V → Hp → VK → Prop} (h : CallR X f r) (h' : CallR X f r') : CallR X f (fun x H Q => r x H Q ∨ r' x H Q) := by
  intro pins s σ H xs us Q I r q
  rcases q with q | q
  · exact h pins s σ H xs us Q I r q
  · exact h' pins s σ H xs us Q I r q
def oAbs (ds : List D) (Q : D → Prop) : Prop := match ds with
  | [.int i] => Q (.int (if i < 0 then -i else i))
  | _ => False
theorem rf_abs {B : Bx} : RfC B (fun xs H Q => ∃ i, xs = [.int i] ∧ Q (.int (if i < 0 then -i else i)) H) oAbs := by
  intro W m M vs ds Q Qd mk rs h k
  have ok := W.ok.trans (cat_ex W.H m)
  unfold oAbs at h
  split at h
  · cases rs with
    | cons r t => cases t; cases r; exact ⟨_, rfl, k _ _ W h (Wd.le.refl W) mk (.int _)⟩
  · exact h.elim
def oMax2 (ds : List D) (Q : D → Prop) : Prop := match ds with
  | [.int i, .int j] => Q (.int (if j > i then j else i))
  | _ => False
theorem rf_max2 {B : Bx} : RfC B (fun xs H Q => ∃ i j, xs = [.int i, .int j] ∧ Q (.int (if j > i then j else i)) H) oMax2 := by
  intro W m M vs ds Q Qd mk rs h k
  have ok := W.ok.trans (cat_ex W.H m)
  unfold oMax2 at h
  split at h
  · cases rs with
    | cons r t => cases t with | cons r2 t => cases t; cases r; cases r2; exact ⟨_, _, rfl, k _ _ W h (Wd.le.refl W) mk (.int _)⟩
  · exact h.elim
def oMin2 (ds : List D) (Q : D → Prop) : Prop := match ds with
  | [.int i, .int j] => Q (.int (if j < i then j else i))
  | _ => False
theorem rf_min2 {B : Bx} : RfC B (fun xs H Q => ∃ i j, xs = [.int i, .int j] ∧ Q (.int (if j < i then j else i)) H) oMin2 := by
  intro W m M vs ds Q Qd mk rs h k
  have ok := W.ok.trans (cat_ex W.H m)
  unfold oMin2 at h
  split at h
  · cases rs with
    | cons r t => cases t with | cons r2 t => cases t; cases r; cases r2; exact ⟨_, _, rfl, k _ _ W h (Wd.le.refl W) mk (.int _)⟩
  · exact h.elim
def oLen (ds : List D) (Q : D → Prop) : Prop := match ds with
  | [.str y] => y.length ≤ sizeLine ∧ Q (.int y.length)
  | [.lst xs] => Q (.int xs.length)
  | [.tup xs] => Q (.int xs.length)
  | [.dic _ ks] => Q (.int ks.length)
  | _ => False
theorem call_lenA : CallR X (.builtin "len") (fun xs H Q => (∃ x n, xs = [x] ∧ LenV X.K x H n ∧ Q (.int n) H) ∨ rLenX (bx X) xs H Q) := CallR.or call_len call_lenX
theorem rf_len {B : Bx} : RfC B (fun xs H Q => (∃ x n, xs = [x] ∧ LenV B.K x H n ∧ Q (.int n) H) ∨ rLenX B xs H Q) oLen := by
  intro W m M vs ds Q Qd mk rs h k
  have ok := W.ok.trans (cat_ex W.H m)
  unfold oLen at h
  split at h
  · cases rs with
    | cons r t => cases t; cases r; exact .inl ⟨_, _, rfl, ⟨h.1, rfl⟩, k _ _ W h.2 (Wd.le.refl W) mk (.int _)⟩
  · cases rs with
    | cons r t =>
      cases t
      obtain ⟨a, vs, rfl, h1, h2⟩ := r
      exact .inl ⟨_, _, rfl, .inl ⟨vs, h1, rfl⟩, by rw [h2.length]; exact k _ _ W h (Wd.le.refl W) mk (.int _)⟩
  · cases rs with
    | cons r t =>
      cases t
      cases r with
      | tup h1 h2 => exact .inl ⟨_, _, rfl, .inr ⟨_, Evl.ex_t ok h1, rfl⟩, by rw [h2.length]; exact k _ _ W h (Wd.le.refl W) mk (.int _)⟩
  · cases rs with
    | cons r t =>
      cases t
      obtain ⟨a, rfl, h1⟩ := r
      exact .inr ⟨W.F, a, _, _, ok, rfl, h1, k _ _ W h (Wd.le.refl W) mk (.int _)⟩
  · exact h.elim
/-- int(x) of an int, a truth, a text of figures -/
def oInt1 (ds : List D) (Q : D → Prop) : Prop := match ds with
  | [.int i] => Q (.int i)
  | [.bl k] => Q (.int (if k then 1 else 0))
  | [.str a] => ∃ n, PySem.intText? a = some n ∧ a.length ≤ 640 ∧ Q (.int n)
  | _ => False
theorem rf_int1 {B : Bx} : RfC B (fun xs H Q => ((∃ i, xs = [.int i] ∧ Q (.int i) H) ∨ ∃ k, xs = [.bl k] ∧ Q (.int (if k then 1 else 0)) H) ∨ ∃ a n, xs = [.str a] ∧ PySem.intText? a = some n ∧ a.length ≤ 640 ∧ Q (.int n) H) oInt1 := by
  intro W m M vs ds Q Qd mk rs h k
  have ok := W.ok.trans (cat_ex W.H m)
  unfold oInt1 at h
  split at h
  · cases rs with
    | cons r t => cases t; cases r; exact .inl (.inl ⟨_, rfl, k _ _ W h (Wd.le.refl W) mk (.int _)⟩)
  · cases rs with
    | cons r t => cases t; cases r; exact .inl (.inr ⟨_, rfl, k _ _ W h (Wd.le.refl W) mk (.int _)⟩)
  · cases rs with
    | cons r t =>
      cases t; cases r
      obtain ⟨n, e1, e2, q⟩ := h
      exact .inr ⟨_, n, rfl, e1, e2, k _ _ W q (Wd.le.refl W) mk (.int _)⟩
  · exact h.elim
theorem call_intA : CallR X (.type "int") (fun xs H Q => ((∃ i, xs = [.int i] ∧ Q (.int i) H) ∨ ∃ k, xs = [.bl k] ∧ Q (.int (if k then 1 else 0)) H) ∨ ∃ a n, xs = [.str a] ∧ PySem.intText? a = some n ∧ a.length ≤ 640 ∧ Q (.int n) H) := CallR.or call_int1 call_int_str
def oStr1 (ds : List D) (Q : D → Prop) : Prop := match ds with
  | [.int i] => i.natAbs.log2 < 1920 ∧ Q (.str (toString i))
  | _ => False
theorem rf_str1 {B : Bx} : RfC B (fun xs H Q => ∃ i, xs = [.int i] ∧ i.natAbs.log2 < 1920 ∧ Q (.str (toString i)) H) oStr1 := by
  intro W m M vs ds Q Qd mk rs h k
  have ok := W.ok.trans (cat_ex W.H m)
  unfold oStr1 at h
  split at h
  · cases rs with
    | cons r t => cases t; cases r; exact ⟨_, rfl, h.1, k _ _ W h.2 (Wd.le.refl W) mk (.str _)⟩
  · exact h.elim
/-- isinstance(x, a built-in class) -/
def tyS : D → Option String
  | .non => some "NoneType"
  | .bl _ => some "bool"
  | .int _ => some "int"
  | .str _ => some "str"
  | .lst _ => some "list"
  | .tup _ => some "tuple"
  | _ => none
theorem tyX_of {B : Bx} {F H : Hp} (ok : Ex F H) {v : V} {d : D} {n : String} (h : RpR B F H v d) (e : tyS d = some n) : TyX B.K H v (.type n) := by
  cases d with
  | non => cases h; cases e; exact .base .non
  | bl b => cases h; cases e; exact .base (.bl b)
  | int b => cases h; cases e; exact .base (.int b)
  | str b => cases h; cases e; exact .base (.str b)
  | lst ds =>
    cases e
    obtain ⟨a, vs, rfl, h1, h2⟩ := h
    rcases h1 with (h1 | ⟨o, h1⟩) | ⟨o, its, n, h1, h2, _⟩
    · exact .base (.lst h1)
    · exact .base (.frz h1)
    · exact .kList h1 h2
  | tup ds =>
    cases e
    cases h with
    | tup h1 h2 =>
      rcases Evl.ex_t ok h1 with (h1 | ⟨o, h1⟩) | ⟨o, its, n, h1, h2, _⟩
      · exact .base (.tup h1)
      · exact .fTuple h1
      · exact .kTuple h1 h2
  | _ => cases e
def isD (n : String) (d : D) : Bool := match tyS d with
  | some m => m == n || (m == "bool" && n == "int")
  | none => false
def oIsi (n : String) (ds : List D) (Q : D → Prop) : Prop := match ds with
  | [d, .ty m] => m = n ∧ (tyS d).isSome = true ∧ Q (.bl (isD n d))
  | _ => False
theorem rf_isi {B : Bx} {n : String} (hn : ∀ m, m = "NoneType" ∨ m = "bool" ∨ m = "int" ∨ m = "str" ∨ m = "list" ∨ m = "tuple" → kitB m n = some (m == n || (m == "bool" && n == "int"))) : RfC B (rIsi B.K) (oIsi n) := by
  intro W m M vs ds Q Qd mk rs h k
  have ok := W.ok.trans (cat_ex W.H m)
  unfold oIsi at h
  split at h
  · rename_i d m
    obtain ⟨rfl, h1, q⟩ := h
    cases rs with
    | cons r t =>
      cases t with
      | cons r2 t =>
        cases t
        cases r2
        cases z : tyS d with
        | none => rw [z] at h1; cases h1
        | some mm =>
          refine ⟨_, _, .type mm, .type m, isD m d, rfl, .ty m, tyX_of ok r z, kit_ty ?_, k _ _ W q (Wd.le.refl W) mk (.bl _)⟩
          have : isD m d = (mm == m || (mm == "bool" && m == "int")) := by unfold isD; rw [z]
          rw [this]
          refine hn mm ?_
          cases d <;> cases z <;> simp
  · exact h.elim
theorem isi_int : ∀ m, m = "NoneType" ∨ m = "bool" ∨ m = "int" ∨ m = "str" ∨ m = "list" ∨ m = "tuple" → kitB m "int" = some (m == "int" || (m == "bool" && "int" == "int")) := by
  rintro m (rfl | rfl | rfl | rfl | rfl | rfl) <;> decide +kernel
theorem isi_bool : ∀ m, m = "NoneType" ∨ m = "bool" ∨ m = "int" ∨ m = "str" ∨ m = "list" ∨ m = "tuple" → kitB m "bool" = some (m == "bool" || (m == "bool" && "bool" == "int")) := by
  rintro m (rfl | rfl | rfl | rfl | rfl | rfl) <;> decide +kernel
theorem isi_tuple : ∀ m, m = "NoneType" ∨ m = "bool" ∨ m = "int" ∨ m = "str" ∨ m = "list" ∨ m = "tuple" → kitB m "tuple" = some (m == "tuple" || (m == "bool" && "tuple" == "int")) := by
  rintro m (rfl | rfl | rfl | rfl | rfl | rfl) <;> decide +kernel
theorem isi_str : ∀ m, m = "NoneType" ∨ m = "bool" ∨ m = "int" ∨ m = "str" ∨ m = "list" ∨ m = "tuple" → kitB m "str" = some (m == "str" || (m == "bool" && "str" == "int")) := by
  rintro m (rfl | rfl | rfl | rfl | rfl | rfl) <;> decide +kernel
theorem isi_list : ∀ m, m = "NoneType" ∨ m = "bool" ∨ m = "int" ∨ m = "str" ∨ m = "list" ∨ m = "tuple" → kitB m "list" = some (m == "list" || (m == "bool" && "list" == "int")) := by
  rintro m (rfl | rfl | rfl | rfl | rfl | rfl) <;> decide +kernel
/-- tuple(x) of a list or a tuple -/
def oTuple1 (ds : List D) (Q : D → Prop) : Prop := match ds with
  | [.lst xs] => Q (.tup xs)
  | [.tup xs] => Q (.tup xs)
  | _ => False
theorem rf_tuple1 {B : Bx} : RfC B (fun xs H Q => ∃ p ys, xs = [.ref p] ∧ ((SqL B.K H p ys ∧ ∀ l, H l = none → Q (.ref l) (upd H l (.tup ys))) ∨ (SqT B.K H p ys ∧ Q (.ref p) H))) oTuple1 := by
  intro W m M vs ds Q Qd mk rs h k
  have ok := W.ok.trans (cat_ex W.H m)
  unfold oTuple1 at h
  split at h
  · cases rs with
    | cons r t =>
      cases t
      obtain ⟨a, vs, rfl, h1, h2⟩ := r
      exact ⟨a, vs, rfl, .inl ⟨h1, fun l hl => newT mk hl h2 fun W' le mk' r => k _ _ W' h le mk' r⟩⟩
  · cases rs with
    | cons r t =>
      cases t
      cases r with
      | tup h1 h2 => exact ⟨_, _, rfl, .inr ⟨Evl.ex_t ok h1, k _ _ W h (Wd.le.refl W) mk (.tup h1 h2)⟩⟩
  · exact h.elim
/-- list(x) of a list or a tuple: a new one -/
def oList1 (ds : List D) (Q : List D → Prop) : Prop := match ds with
  | [.lst xs] => Q xs
  | [.tup xs] => Q xs
  | _ => False
theorem oList1_of {ds : List D} {Q : List D → Prop} (h : oList1 ds Q) : (∃ xs, ds = [.lst xs] ∧ Q xs) ∨ ∃ xs, ds = [.tup xs] ∧ Q xs := by
  unfold oList1 at h
  split at h
  · exact .inl ⟨_, rfl, h⟩
  · exact .inr ⟨_, rfl, h⟩
  · exact h.elim
def dList1 (R : DTA) : DTA := fun ρ M Q E => R ρ M (fun ds M' => oList1 (ds.map (drf M')) fun xs => Q xs M') E
theorem dn_list {ms : List Bool} {R : DTA} {p : Pos} (hm : X.mg "list" = none) (ha : DM X wx ms [e] R) (hg : Gl X "list" := by rfl)
    (he : starEach (e :: []) X.env = (false, eval e X.env) :: starEach [] X.env := by rfl) (hpl : (backTo pos (starEach [] X.env)).any (·.1) = false := by rfl) : DN X wx (.Call (.Name "list" p) [e] [] pos) (dList1 R) := by
  obtain ⟨t, pa, ra⟩ := ha
  refine ⟨_, pe_callTy call_list_of hg hm (by decide +kernel) pa (by decide) (by decide) he hpl, fun W0 W m σ ρ M Q Qd Ed Re k h1 h2 h3 => ra W0 W m σ ρ M _ _ Ed Re k h1 (fun ds vs W' m' M' q le k' hv => ?_) h3⟩
  have hr := hv.reads k'
  have ok := W'.ok.trans (cat_ex W'.H m')
  rcases oList1_of q with ⟨xs, e, q⟩ | ⟨xs, e, q⟩ <;> rw [e] at hr
  · cases hr with
    | cons r t =>
      cases t
      obtain ⟨a, vs, rfl, s1, s2⟩ := r
      exact ⟨a, vs, rfl, .inl s1, fun l hl => newO le k' hl s2 fun W4 l4 k4 h4 h5 h6 h7 => h2 _ l _ W4 m' M' q l4 k4 h4 h5 h6 h7⟩
  · cases hr with
    | cons r t =>
      cases t
      cases r with
      | tup s1 s2 => exact ⟨_, _, rfl, .inr (Evl.ex_t ok s1), fun l hl => newO le k' hl s2 fun W4 l4 k4 h4 h5 h6 h7 => h2 _ l _ W4 m' M' q l4 k4 h4 h5 h6 h7⟩
end
end Z

namespace Z
open PySem PySem.Spec PyProof.Rows L2
open Evl (Ex)

/-! ### statements -/
structure EndsOk (B : Bx) (wx : WX) (W0 : Wd) (D : Ends) (DD : DEnds) : Prop where
  nx : ∀ W m σ ρ M, Rel B W0 W σ ρ → MOk B W M m → DD.nx ρ M → D.nx σ (cat W.H m)
  rt : ∀ d v W m M, W0.le W → MOk B W M m → Rp B W.F v d → DD.rt d M → D.rt v (cat W.H m)
  bk : ∀ W m σ ρ M, Rel B W0 W σ ρ → MOk B W M m → DD.bk ρ M → D.bk σ (cat W.H m)
  ct : ∀ W m σ ρ M, Rel B W0 W σ ρ → MOk B W M m → DD.ct ρ M → D.ct σ (cat W.H m)
  ex : ∀ C W m σ ρ M, Rel B W0 W σ ρ → MOk B W M m → DD.ex C ρ M → wx (.ref (B.cl C)) none σ (cat W.H m)
def RfS (B : Bx) (wx : WX) (t : TS) (T : DTS) : Prop := ∀ (W0 W : Wd) (m : Hp) (σ : L2.St) (ρ : List Ent) (M : Mu) (D : Ends) (DD : DEnds), Rel B W0 W σ ρ → MOk B W M m → T DD ρ M → EndsOk B wx W0 D DD → t D σ (cat W.H m)
def DS (X : Cx) (wx : WX) (st : Stmt) (T : DTS) : Prop := ∃ t, PS X st t ∧ RfS (bx X) wx t T
def DSs (X : Cx) (wx : WX) (st : List Stmt) (T : DTS) : Prop := ∃ t, PSs X st t ∧ RfS (bx X) wx t T

section
variable {X : Cx} {wx : WX} {e a b c : Expr} {es : List Expr} {T Ta Tb Tc : DTE} {pos : Pos} {U U' : DTT} {st : Stmt} {rest body : List Stmt} {S S' : DTS}
def dNext : DTS := fun DD ρ M => DD.nx ρ M
def dSeq (S S' : DTS) : DTS := fun DD ρ M => S { DD with nx := S' DD } ρ M
theorem dss_nil : DSs X wx [] dNext := ⟨_, pss_nil, fun W0 W m σ ρ M D DD R mk h k => k.nx W m σ ρ M R mk h⟩
theorem dss_cons (h1 : DS X wx st S) (h2 : DSs X wx rest S') : DSs X wx (st :: rest) (dSeq S S') := by
  obtain ⟨t, p, r⟩ := h1
  obtain ⟨t', p', r'⟩ := h2
  refine ⟨_, pss_cons p p', fun W0 W m σ ρ M D DD R mk h k => ?_⟩
  exact r W0 W m σ ρ M _ _ R mk h ⟨fun W' m' σ' ρ' M' R' mk' h' => r' W0 W' m' σ' ρ' M' D DD R' mk' h' k, k.rt, k.bk, k.ct, k.ex⟩
/-- a statement, then the rest, with a word between them -/
def dCut (S S' : DTS) : DTS := fun DD ρ M => ∃ I : List Ent → Mu → Prop, S { DD with nx := I } ρ M ∧ ∀ ρ' M', I ρ' M' → S' DD ρ' M'
theorem dss_cut (h1 : DS X wx st S) (h2 : DSs X wx rest S') : DSs X wx (st :: rest) (dCut S S') := by
  obtain ⟨t, p, r⟩ := h1
  obtain ⟨t', p', r'⟩ := h2
  refine ⟨_, pss_cons p p', fun W0 W m σ ρ M D DD R mk ⟨I, h, hi⟩ k => ?_⟩
  exact r W0 W m σ ρ M _ _ R mk h ⟨fun W' m' σ' ρ' M' R' mk' h' => r' W0 W' m' σ' ρ' M' D DD R' mk' (hi ρ' M' h') k, k.rt, k.bk, k.ct, k.ex⟩
theorem dss_one (h1 : DS X wx st S) : DSs X wx [st] S := by
  obtain ⟨t, p, r⟩ := h1
  exact ⟨_, pss_one p, r⟩
/-- an owned list or dict is frozen ahead of a statement -/
def frzE (i : Nat) (ρ : List Ent) : List Ent := match ga ρ i with
  | .own ds => ρ.set i (.dat (.lst ds))
  | .dk t ks => ρ.set i (.dat (.dic t ks))
  | _ => ρ
theorem Rel.frz {B : Bx} {W0 W : Wd} {m : Hp} {σ : L2.St} {ρ : List Ent} {M : Mu} (R : Rel B W0 W σ ρ) (mk : MOk B W M m) (i : Nat) : ∃ W', W'.H = W.H ∧ MOk B W' M m ∧ Rel B W0 W' σ (frzE i ρ) := by
  obtain ⟨le, len, ad, h3, h4⟩ := id R
  have q := h4 i
  have main : ∀ (o : HO) (d : D), (ga ρ i).ownd = true → W.H (ad i) = some o → W.F (ad i) = none → W0.H (ad i) = none → σ[i]? = some (some (.ref (ad i))) → (∀ F', Ex W.F F' → F' (ad i) = some o → Rp B F' (.ref (ad i)) d) → i < ρ.length →
      ∃ W', W'.H = W.H ∧ MOk B W' M m ∧ Rel B W0 W' σ (ρ.set i (.dat d)) := fun o d ow hH hF h0 hs hv hl => by
    have exF : Ex W.F (upd W.F (ad i) o) := upd_ex hF
    refine ⟨W.frz (ad i) o hH, rfl, mk.frz hH hF, ⟨le.f.trans exF, le.h, fun a z1 z2 => ?_⟩, by rw [List.length_set]; exact len, ad, fun j k hjk hj hk => ?_, fun j => ?_⟩
    · show upd W.F (ad i) o a = none
      rw [upd_ne (fun y => by subst y; exact z1 h0)]; exact le.n a z1 z2
    · rw [ga_set, if_pos hl] at hj hk
      split at hj
      · cases hj
      · split at hk
        · cases hk
        · exact h3 j k hjk hj hk
    · rw [ga_set]
      by_cases z : i = j
      · subst z
        rw [if_pos rfl, if_pos hl]
        exact ⟨_, hs, hv _ exF upd_same⟩
      · rw [if_neg z]
        have q := h4 j
        have keep : ∀ a', (ga ρ j).ownd = true → a' = ad j → W.F a' = none → upd W.F (ad i) o a' = none := fun a' oj e hn => by
          rw [upd_ne (fun y => h3 i j z ow oj (y.symm.trans e))]; exact hn
        cases y : ga ρ j with
        | un => trivial
        | dat d => rw [y] at q; obtain ⟨v, q1, q2⟩ := q; exact ⟨v, q1, q2.mono exF⟩
        | own ds => rw [y] at q keep; obtain ⟨vs, q1, q2, q3, q4, q5⟩ := q; exact ⟨vs, q1, q2, keep _ rfl rfl q3, q4, q5.mono exF⟩
        | bor d => rw [y] at q; obtain ⟨v, q1, q2⟩ := q; exact ⟨v, q1, q2.imp (fun z => z.monoF exF) fun z => z.mono exF⟩
        | dk t ds => rw [y] at q keep; obtain ⟨q1, q2, q3, q4⟩ := q; exact ⟨q1, q2.mono exF, keep _ rfl rfl q3, q4⟩
  unfold frzE
  have hl : ga ρ i ≠ .un → i < ρ.length := ga_lt
  cases y : ga ρ i with
  | un => exact ⟨W, rfl, mk, R⟩
  | dat d => exact ⟨W, rfl, mk, R⟩
  | bor d => exact ⟨W, rfl, mk, R⟩
  | own ds =>
    rw [y] at q hl
    obtain ⟨vs, q1, q2, q3, q4, q5⟩ := q
    exact main _ (.lst ds) (by rw [y]; rfl) q2 q3 q4 q1 (fun F' ex hf => .lst (SqL.of hf) (q5.mono ex)) (hl (fun z => by cases z))
  | dk t ds =>
    rw [y] at q hl
    obtain ⟨q1, q2, q3, q4⟩ := q
    rcases q2 with ⟨rfl, kv, ob, y1, y2⟩ | ⟨rfl, xs, ob, y1, y2⟩
    · exact main _ (.dic false ds) (by rw [y]; rfl) y1 q3 q4 q1 (fun F' ex hf => .dic hf (y2.mono ex)) (hl (fun z => by cases z))
    · exact main _ (.dic true ds) (by rw [y]; rfl) y1 q3 q4 q1 (fun F' ex hf => .dit hf (y2.mono ex)) (hl (fun z => by cases z))
def dFrz (i : Nat) (S : DTS) : DTS := fun DD ρ M => S DD (frzE i ρ) M
theorem ds_frz (i : Nat) (h : DS X wx st S) : DS X wx st (dFrz i S) := by
  obtain ⟨t, p, r⟩ := h
  refine ⟨t, p, fun W0 W m σ ρ M D DD R mk h k => ?_⟩
  obtain ⟨W', e, mk', R'⟩ := R.frz mk i
  have q := r W0 W' m σ _ M D DD R' mk' h k
  rw [e] at q
  exact q
theorem dss_frz (i : Nat) (h : DSs X wx rest S) : DSs X wx rest (dFrz i S) := by
  obtain ⟨t, p, r⟩ := h
  refine ⟨t, p, fun W0 W m σ ρ M D DD R mk h k => ?_⟩
  obtain ⟨W', e, mk', R'⟩ := R.frz mk i
  have q := r W0 W' m σ _ M D DD R' mk' h k
  rw [e] at q
  exact q

/-! ### targets -/
abbrev DTG := D → List Ent → (List Ent → Prop) → Prop
def RfG (B : Bx) (g : TG) (G : DTG) : Prop := ∀ (W0 W : Wd) (m : Hp) (σ : L2.St) (ρ : List Ent) (v : V) (d : D) (Q : L2.St → Hp → Prop) (Qd : List Ent → Prop), Rel B W0 W σ ρ → Rp B W.F v d → G d ρ Qd → (∀ σ' ρ', Rel B W0 W σ' ρ' → Qd ρ' → Q σ' (cat W.H m)) → g v σ (cat W.H m) Q
def DG (X : Cx) (tg : Expr) (G : DTG) : Prop := ∃ g, PG X tg g ∧ RfG (bx X) g G
abbrev DTGs := List D → List Ent → (List Ent → Prop) → Prop
def RfGs (B : Bx) (g : TGs) (G : DTGs) : Prop := ∀ (W0 W : Wd) (m : Hp) (σ : L2.St) (ρ : List Ent) (v : List V) (d : List D) (Q : L2.St → Hp → Prop) (Qd : List Ent → Prop), Rel B W0 W σ ρ → RpAll B W.F v d → G d ρ Qd → (∀ σ' ρ', Rel B W0 W σ' ρ' → Qd ρ' → Q σ' (cat W.H m)) → g v σ (cat W.H m) Q
def DGs (X : Cx) (tg : List Expr) (G : DTGs) : Prop := ∃ g, PGs X tg g ∧ RfGs (bx X) g G
variable {tg : Expr} {G : DTG} {Gs : DTGs} {tgs : List Expr}
def dgName (i : Nat) : DTG := fun d ρ Q => Q (ρ.set i (.dat d))
theorem dg_name {i : Nat} {x : Str} (hN : X.N.Nodup) (hi : X.N[i]? = some x := by rfl) (hx : Loc X.env.scope x := by first | exact Or.inl rfl | exact Or.inr rfl) (hf : X.fn x = true ∨ X.env.scope.names.lookup x = some .local := by first | exact .inl rfl | exact .inr rfl) : DG X (.Name x pos) (dgName i) :=
  ⟨_, pg_name hN hi hx hf, fun W0 W m σ ρ v d Q Qd R r h k => k _ _ (R.set r) h⟩
def dgNil : DTGs := fun ds ρ Q => ds = [] ∧ Q ρ
def dgCons (G : DTG) (Gs : DTGs) : DTGs := fun ds ρ Q => match ds with | d :: r => G d ρ fun ρ' => Gs r ρ' Q | [] => False
theorem dgs_nil : DGs X [] dgNil := ⟨_, pgs_nil, fun W0 W m σ ρ v d Q Qd R r h k => by
  obtain ⟨rfl, h⟩ := h
  cases r
  exact ⟨rfl, k _ _ R h⟩⟩
theorem dgs_cons (h1 : DG X e G) (h2 : DGs X es Gs) (hs : (assignEach (e :: es) X.env).map (·.2) = assign e X.env :: (assignEach es X.env).map (·.2) := by rfl) : DGs X (e :: es) (dgCons G Gs) := by
  obtain ⟨g, p, r⟩ := h1
  obtain ⟨g', p', r'⟩ := h2
  refine ⟨_, pgs_cons p p' hs, fun W0 W m σ ρ v d Q Qd R rr h k => ?_⟩
  cases rr with
  | nil => exact h.elim
  | cons q t => exact ⟨_, _, rfl, r W0 W m σ ρ _ _ _ _ R q h fun σ' ρ' R' h' => r' W0 W m σ' ρ' _ _ _ _ R' t h' k⟩
def dgTup (n : Nat) (Gs : DTGs) : DTG := fun d ρ Q => match d with | .tup ds => ds.length = n ∧ Gs ds ρ Q | _ => False
theorem dg_tup {k n : Nat} (hc : X.calm = true) (h : DGs X es Gs) (hn : (assignEach es X.env).length = n := by rfl) (hst : (assignEach es X.env).findIdx? (·.1) = none := by rfl) : DG X (.Tuple es k pos) (dgTup n Gs) := by
  obtain ⟨g, p, r⟩ := h
  refine ⟨_, pg_tup hc p hn hst, fun W0 W m σ ρ v d Q Qd R rr h k => ?_⟩
  cases d with
  | tup ds =>
    cases rr with
    | tup h1 h2 => exact ⟨_, _, rfl, Evl.ex_t (W.ok.trans (cat_ex W.H m)) h1, by rw [h2.length]; exact h.1, r W0 W m σ ρ _ _ _ _ R h2 h.2 k⟩
  | _ => exact h.elim

/-! ### assignments -/
def dAsg (i : Nat) (T : DTE) : DTS := fun DD ρ M => T ρ M (fun d => DD.nx (ρ.set i (.dat d))) fun C => DD.ex C ρ
theorem ds_set {i : Nat} {x : Str} {pos' : Pos} (hN : X.N.Nodup) (he : DE X wx e T) (hi : X.N[i]? = some x := by rfl) (hx : Loc X.env.scope x := by first | exact Or.inl rfl | exact Or.inr rfl) (hs : swapsWith e (some (.Name x pos')) pos.line X.env = pure false := by rfl)
    (hf : X.fn x = true ∨ X.env.scope.names.lookup x = some .local := by first | exact .inl rfl | exact .inr rfl) : DS X wx (.Assign [.Name x pos'] e pos) (dAsg i T) := by
  obtain ⟨t, p, r⟩ := he
  refine ⟨_, ps_set hN hi hx p hs hf, fun W0 W m σ ρ M D DD R mk h k => r W0 W m σ ρ M _ _ _ R mk h (fun d v W' m' M' q le mk' hv => ?_) fun C W' m' M' q le mk' => k.ex C W' m' σ ρ M' (R.mono le) mk' q⟩
  exact k.nx W' m' _ _ M' ((R.mono le).set hv) mk' q
/-- the name owns a new list -/
def dOwn (i : Nat) (T : DTA) : DTS := fun DD ρ M => T ρ M (fun ds => DD.nx (ρ.set i (.own ds))) fun C => DD.ex C ρ
theorem own_nx {B : Bx} {W0 W W' : Wd} {σ : L2.St} {ρ : List Ent} {p : Addr} {vs : List V} {ds : List D} {i : Nat} (R : Rel B W0 W σ ρ) (le : W.le W') (hn : W.H p = none) (hp : W'.H p = some (.lst vs)) (hf : W'.F p = none) (hv : RpAll B W'.F vs ds) : Rel B W0 W' (σ.set i (some (.ref p))) (ρ.set i (.own ds)) :=
  R.store (b := p) le (fun hl => ⟨vs, List.getElem?_set_self (by rw [R.len]; exact hl), hp, hf, ex_none R.le.h hn, hv⟩) fun _ => hn
theorem ds_own {i : Nat} {x : Str} {pos' : Pos} {T : DTA} (hN : X.N.Nodup) (he : DN X wx e T) (hi : X.N[i]? = some x := by rfl) (hx : Loc X.env.scope x := by first | exact Or.inl rfl | exact Or.inr rfl) (hs : swapsWith e (some (.Name x pos')) pos.line X.env = pure false := by rfl)
    (hf : X.fn x = true ∨ X.env.scope.names.lookup x = some .local := by first | exact .inl rfl | exact .inr rfl) : DS X wx (.Assign [.Name x pos'] e pos) (dOwn i T) := by
  obtain ⟨t, p, r⟩ := he
  refine ⟨_, ps_set hN hi hx p hs hf, fun W0 W m σ ρ M D DD R mk h k => r W0 W m σ ρ M _ _ _ R mk h (fun ds p vs W' m' M' q le mk' hn hp hf hv => ?_) fun C W' m' M' q le mk' => k.ex C W' m' σ ρ M' (R.mono le) mk' q⟩
  exact k.nx W' m' _ _ M' (own_nx R le hn hp hf hv) mk' q
/-- any target -/
def dAsgG (T : DTE) (G : DTG) : DTS := fun DD ρ M => T ρ M (fun d M' => G d ρ fun ρ' => DD.nx ρ' M') fun C => DD.ex C ρ
theorem ds_asg (he : DE X wx e T) (hg : DG X tg G) (hs : swapsWithSole [tg] e pos.line X.env = pure false := by rfl) (hw : swappedStores [tg] e X.env = pure none := by rfl)
    (h1 : (assignEach [tg] X.env).map (·.2) = [assign tg X.env] := by rfl) : DS X wx (.Assign [tg] e pos) (dAsgG T G) := by
  obtain ⟨t, p, r⟩ := he
  obtain ⟨g, pg, rg⟩ := hg
  refine ⟨_, ps_asg p pg hs hw h1, fun W0 W m σ ρ M D DD R mk h k => r W0 W m σ ρ M _ _ _ R mk h (fun d v W' m' M' q le mk' hv => ?_) fun C W' m' M' q le mk' => k.ex C W' m' σ ρ M' (R.mono le) mk' q⟩
  exact rg W0 W' m' σ ρ v d _ _ (R.mono le) hv q fun σ' ρ' R' h' => k.nx W' m' σ' ρ' M' R' mk' h'
/-- a, b = x, y -/
def dPar (i j : Nat) (R : DTA) : DTS := fun DD ρ M => R ρ M (fun ds M' => match ds with | [x, y] => DD.nx ((ρ.set i (.dat x)).set j (.dat y)) M' | _ => False) fun C => DD.ex C ρ
theorem ds_par {i j : Nat} {x y : Str} {ms : List Bool} {Ra : DTA} {px py pt : Pos} {kt k2 pt2} (hc : X.calm = true) (hN : X.N.Nodup) (ha : DM X wx ms [a, b] Ra) (hm : ms.any id = false := by rfl) (hi : X.N[i]? = some x := by rfl) (hj : X.N[j]? = some y := by rfl) (hij : i ≠ j := by decide)
    (hx : X.env.scope.names.lookup x = some .local := by rfl) (hy : X.env.scope.names.lookup y = some .local := by rfl)
    (hw : swappedStores [.Tuple [.Name x px, .Name y py] kt pt] (.Tuple [a, b] k2 pt2) X.env = pure (some [x, y]) := by rfl)
    (hs : swapsWithSole [.Tuple [.Name x px, .Name y py] kt pt] (.Tuple [a, b] k2 pt2) pos.line X.env = pure false := by rfl) :
    DS X wx (.Assign [.Tuple [.Name x px, .Name y py] kt pt] (.Tuple [a, b] k2 pt2) pos) (dPar i j Ra) := by
  obtain ⟨t, p, r⟩ := ha
  refine ⟨_, ps_par hc hN hi hj hij hx hy p hw hs, fun W0 W m σ ρ M D DD R mk h k => r W0 W m σ ρ M _ _ _ R mk h (fun ds vs W' m' M' q le mk' hv => ?_) fun C W' m' M' q le mk' => k.ex C W' m' σ ρ M' (R.mono le) mk' q⟩
  have hv := hv.all hm
  cases hv with
  | nil => exact q.elim
  | cons r1 t1 =>
    cases t1 with
    | nil => exact q.elim
    | cons r2 t2 =>
      cases t2 with
      | nil => exact ⟨_, _, rfl, k.nx W' m' _ _ M' (((R.mono le).set r1).set r2) mk' q⟩
      | cons _ _ => exact q.elim
/-- x op= e, ints -/
def dAugI (i : Nat) (f : Int → Int → Int) (T : DTE) : DTS := fun DD ρ M => match ga ρ i with
  | .dat (.int x) => T ρ M (fun d M' => match d with | .int y => DD.nx (ρ.set i (.dat (.int (f x y)))) M' | _ => False) fun C => DD.ex C ρ
  | _ => False
theorem ds_augI {i : Nat} {x : Str} {op : Operator} {f : Int → Int → Int} {pos' : Pos} (hN : X.N.Nodup) (ho : PIp X op (ipI f)) (he : DE X wx e T) (hi : X.N[i]? = some x := by rfl) (hx : Loc X.env.scope x := by first | exact Or.inl rfl | exact Or.inr rfl)
    (hf : X.fn x = true ∨ X.env.scope.names.lookup x = some .local := by first | exact .inl rfl | exact .inr rfl) : DS X wx (.AugAssign (.Name x pos') op e pos) (dAugI i f T) := by
  obtain ⟨t, p, r⟩ := he
  refine ⟨_, ps_aug hN hi hx p ho hf, fun W0 W m σ ρ M D DD R mk h k => ?_⟩
  unfold dAugI at h
  split at h
  · rename_i x z
    obtain ⟨v, e1, rv⟩ := R.dat z
    cases rv
    refine ⟨_, e1, r W0 W m σ ρ M _ _ _ R mk h (fun d v W' m' M' q le mk' hv => ?_) fun C W' m' M' q le mk' => k.ex C W' m' σ ρ M' (R.mono le) mk' q⟩
    cases d with
    | int y => cases hv; exact ⟨_, _, rfl, rfl, k.nx W' m' _ _ M' ((R.mono le).set (.int _)) mk' q⟩
    | _ => exact q.elim
  · exact h.elim
def dDrop (T : DTE) : DTS := fun DD ρ M => T ρ M (fun _ => DD.nx ρ) fun C => DD.ex C ρ
theorem ds_expr (he : DE X wx e T) (hs : swapsWith e none pos.line X.env = pure false := by rfl) : DS X wx (.Expr e pos) (dDrop T) := by
  obtain ⟨t, p, r⟩ := he
  exact ⟨_, ps_expr p hs, fun W0 W m σ ρ M D DD R mk h k => r W0 W m σ ρ M _ _ _ R mk h (fun d v W' m' M' q le mk' hv => k.nx W' m' σ ρ M' (R.mono le) mk' q) fun C W' m' M' q le mk' => k.ex C W' m' σ ρ M' (R.mono le) mk' q⟩
def dRet (T : DTE) : DTS := fun DD ρ M => T ρ M DD.rt fun C => DD.ex C ρ
theorem ds_ret (he : DE X wx e T) : DS X wx (.Return (some e) pos) (dRet T) := by
  obtain ⟨t, p, r⟩ := he
  exact ⟨_, ps_ret p, fun W0 W m σ ρ M D DD R mk h k => r W0 W m σ ρ M _ _ _ R mk h (fun d v W' m' M' q le mk' hv => k.rt d v W' m' M' (R.le.trans le) mk' hv q) fun C W' m' M' q le mk' => k.ex C W' m' σ ρ M' (R.mono le) mk' q⟩
def dRetN : DTS := fun DD _ M => DD.rt .non M
theorem ds_retN : DS X wx (.Return none pos) dRetN := ⟨_, ps_retN, fun W0 W m σ ρ M D DD R mk h k => k.rt .non .non W m M R.le mk .non h⟩
theorem ds_pass : DS X wx (.Pass pos) dNext := ⟨_, ps_pass, fun W0 W m σ ρ M D DD R mk h k => k.nx W m σ ρ M R mk h⟩
def dBreak : DTS := fun DD ρ M => DD.bk ρ M
def dCont : DTS := fun DD ρ M => DD.ct ρ M
theorem ds_break : DS X wx (.Break pos) dBreak := ⟨_, ps_break, fun W0 W m σ ρ M D DD R mk h k => k.bk W m σ ρ M R mk h⟩
theorem ds_cont : DS X wx (.Continue pos) dCont := ⟨_, ps_continue, fun W0 W m σ ρ M D DD R mk h k => k.ct W m σ ρ M R mk h⟩
def dIf (U : DTT) (S S' : DTS) : DTS := fun DD ρ M => U ρ M (fun b M' => if b = true then S DD ρ M' else S' DD ρ M') fun C => DD.ex C ρ
theorem ds_if {body orelse : List Stmt} (hc : DT X wx c U) (ha : DSs X wx body S) (hb : DSs X wx orelse S') : DS X wx (.If c body orelse pos) (dIf U S S') := by
  obtain ⟨t, p, r⟩ := hc
  obtain ⟨ta, pa, ra⟩ := ha
  obtain ⟨tb, pb, rb⟩ := hb
  refine ⟨_, ps_if p pa pb, fun W0 W m σ ρ M D DD R mk h k => r W0 W m σ ρ M _ _ _ R mk h (fun b W' m' M' q le mk' => ?_) fun C W' m' M' q le mk' => k.ex C W' m' σ ρ M' (R.mono le) mk' q⟩
  cases b with
  | true => exact ra W0 W' m' σ ρ M' D DD (R.mono le) mk' q k
  | false => exact rb W0 W' m' σ ρ M' D DD (R.mono le) mk' q k
/-- while: a word with its measure -/
def dWhile (U : DTT) (S : DTS) : DTS := fun DD ρ M => ∃ I : Nat → List Ent → Mu → Prop, (∃ n, I n ρ M) ∧ ∀ n ρ' M', I n ρ' M' → U ρ' M' (fun b M2 => if b = true then S { DD with nx := fun r M3 => ∃ n', n' < n ∧ I n' r M3, ct := fun r M3 => ∃ n', n' < n ∧ I n' r M3, bk := DD.nx } ρ' M2 else DD.nx ρ' M2) fun C => DD.ex C ρ'
theorem ds_while (hp : PassesOwn (model X.prog X.w) X.A X.env X.xe) (hc : DT X wx c U) (hb : DSs X wx body S) : DS X wx (.While c body [] pos) (dWhile U S) := by
  obtain ⟨t, p, r⟩ := hc
  obtain ⟨tb, pb, rb⟩ := hb
  refine ⟨_, ps_while hp p pb, fun W0 W m σ ρ M D DD R mk h k => ?_⟩
  obtain ⟨I, ⟨n0, i0⟩, hs⟩ := h
  refine ⟨fun n σ H => ∃ W m ρ M, cat W.H m = H ∧ Rel (bx X) W0 W σ ρ ∧ MOk (bx X) W M m ∧ I n ρ M, ⟨n0, W, m, ρ, M, rfl, R, mk, i0⟩, ?_⟩
  rintro n σ H ⟨W, m, ρ, M, rfl, R, mk, i⟩
  refine r W0 W m σ ρ M _ _ _ R mk (hs n ρ M i) (fun b W' m' M' q le mk' => ?_) fun C W' m' M' q le mk' => k.ex C W' m' σ ρ M' (R.mono le) mk' q
  cases b with
  | true =>
    refine ⟨fun σ' H' => ∃ n', n' < n ∧ ∃ W m ρ M, cat W.H m = H' ∧ Rel (bx X) W0 W σ' ρ ∧ MOk (bx X) W M m ∧ I n' ρ M, fun σ' H' ⟨n', l, z⟩ => ⟨n', l, z⟩, ?_⟩
    exact rb W0 W' m' σ ρ M' _ _ (R.mono le) mk' q ⟨fun W m σ ρ M R mk ⟨n', l, z⟩ => ⟨n', l, W, m, ρ, M, rfl, R, mk, z⟩, k.rt, k.nx, fun W m σ ρ M R mk ⟨n', l, z⟩ => ⟨n', l, W, m, ρ, M, rfl, R, mk, z⟩, k.ex⟩
  | false => exact k.nx W' m' σ ρ M' (R.mono le) mk' q

/-! ### for -/
/-- the iterator J gives what xs tell, in each world that keeps what W1 has frozen -/
def ItOk (B : Bx) (W0 W1 : Wd) (J : It) (xs : List D) : Prop := ∀ (i : Nat) (W : Wd) (m : Hp) (M : Mu), W0.le W → Ex W1.F W.F → MOk B W M m →
  (∀ d, xs[i]? = some d → J.go i (cat W.H m) ∧ ∀ x H', J.yld i (cat W.H m) x H' → ∃ W', W.le W' ∧ cat W'.H m = H' ∧ MOk B W' M m ∧ Rp B W'.F x d) ∧ (xs.length ≤ i → J.stop i (cat W.H m))
def RfI (B : Bx) (wx : WX) (wi : TI) (T : DTA) : Prop := ∀ (W0 W : Wd) (m : Hp) (σ : L2.St) (ρ : List Ent) (M : Mu) (Q : It → Hp → Prop) (Qd : List D → Mu → Prop) (Ed : Str → Mu → Prop), Rel B W0 W σ ρ → MOk B W M m → T ρ M Qd Ed →
  (∀ xs J W' m' M', Qd xs M' → W.le W' → MOk B W' M' m' → ItOk B W0 W' J xs → Q J (cat W'.H m')) → ExK B wx W σ Ed → wi σ (cat W.H m) Q
def DI (X : Cx) (wx : WX) (tg iter : Expr) (T : DTA) : Prop := ∃ wi, PI X tg iter wi ∧ RfI (bx X) wx wi T
def dLoop (G : DTG) (S : DTS) (DD : DEnds) : List D → List Ent → Mu → Prop
  | [], ρ, M => DD.nx ρ M
  | x :: r, ρ, M => G x ρ fun ρ' => S { DD with nx := dLoop G S DD r, ct := dLoop G S DD r, bk := DD.nx } ρ' M
/-- for: a word of the turn -/
def dForI (G : DTG) (S : DTS) (DD : DEnds) (xs : List D) (ρ : List Ent) (M : Mu) : Prop := ∃ I : Nat → List Ent → Mu → Prop, I 0 ρ M ∧
  (∀ i x, xs[i]? = some x → ∀ ρ' M', I i ρ' M' → G x ρ' fun ρ2 => S { DD with nx := I (i + 1), ct := I (i + 1), bk := DD.nx } ρ2 M') ∧ ∀ ρ' M', I xs.length ρ' M' → DD.nx ρ' M'
def dFor (T : DTA) (G : DTG) (S : DTS) : DTS := fun DD ρ M => T ρ M (fun xs M' => dForI G S DD xs ρ M') fun C => DD.ex C ρ
/-- turn by turn -/
theorem dForI.loop {G : DTG} {S : DTS} {DD : DEnds} {xs : List D} {ρ : List Ent} {M : Mu} (h : dLoop G S DD xs ρ M) : dForI G S DD xs ρ M := by
  refine ⟨fun i ρ M => dLoop G S DD (xs.drop i) ρ M, h, fun i x hx ρ' M' q => ?_, fun ρ' M' q => ?_⟩
  · obtain ⟨hl, e⟩ := List.getElem?_eq_some_iff.mp hx
    have q : dLoop G S DD (xs.drop i) ρ' M' := q
    rw [List.drop_eq_getElem_cons hl, e] at q
    exact q
  · have q : dLoop G S DD (xs.drop xs.length) ρ' M' := q
    rw [List.drop_length] at q
    exact q
variable {iter : Expr} {Ti : DTA}
theorem EndsOk.re {B : Bx} {W0 W1 : Wd} {D : Ends} {DD : DEnds} (k : EndsOk B wx W0 D DD) (le : W0.le W1) : EndsOk B wx (W0.re W1 le) D DD :=
  ⟨fun W m σ ρ M R mk h => k.nx W m σ ρ M R.back mk h, fun d v W m M l mk r h => k.rt d v W m M (Wd.re_back l) mk r h, fun W m σ ρ M R mk h => k.bk W m σ ρ M R.back mk h, fun W m σ ρ M R mk h => k.ct W m σ ρ M R.back mk h, fun C W m σ ρ M R mk h => k.ex C W m σ ρ M R.back mk h⟩
theorem ds_for (hp : PassesOwn (model X.prog X.w) X.A X.env X.xe) (hc : X.calm = true) (hi : DI X wx tg iter Ti) (hg : DG X tg G) (hb : DSs X wx body S) (hs : ∀ x, foldedSetIterable iter X.env x = pure x := by intro _; rfl) : DS X wx (.For tg iter body [] pos) (dFor Ti G S) := by
  obtain ⟨wi, p, r⟩ := hi
  obtain ⟨g, pg, rg⟩ := hg
  obtain ⟨tb, pb, rb⟩ := hb
  refine ⟨_, ps_for hp hc p pg pb hs, fun W0 W m σ ρ M D DD R mk h k => r W0 W m σ ρ M _ _ _ R mk h (fun xs J W1 m1 M1 q le mk1 ok => ?_) fun C W' m' M' q le mk' => k.ex C W' m' σ ρ M' (R.mono le) mk' q⟩
  have R1 := R.mono le
  have k1 := k.re R1.le
  obtain ⟨I, i0, istep, iend⟩ := q
  refine ⟨fun i n σ H => ∃ W m ρ M, cat W.H m = H ∧ Rel (bx X) (W0.re W1 R1.le) W σ ρ ∧ MOk (bx X) W M m ∧ i + n = xs.length ∧ I i ρ M, ⟨xs.length, W1, m1, ρ, M1, rfl, R1.re, mk1, Nat.zero_add _, i0⟩, ?_⟩
  rintro i n σ H ⟨W, m, ρ, M, rfl, R, mk, hm, q⟩
  obtain ⟨go, stop⟩ := ok i W m M R.back.le R.le.f mk
  cases z : xs[i]? with
  | none =>
    have hl : xs.length ≤ i := List.getElem?_eq_none_iff.mp z
    have e : i = xs.length := by omega
    subst e
    exact .inl ⟨stop hl, k1.nx W m σ ρ M R mk (iend ρ M q)⟩
  | some d =>
    obtain ⟨g1, g2⟩ := go d z
    obtain ⟨hl, e⟩ := List.getElem?_eq_some_iff.mp z
    refine .inr ⟨g1, fun σ' H' => ∃ W m ρ M, cat W.H m = H' ∧ Rel (bx X) (W0.re W1 R1.le) W σ' ρ ∧ MOk (bx X) W M m ∧ I (i + 1) ρ M, fun σ' H' ⟨W, m, ρ, M, e1, e2, e3, e4⟩ => ⟨n - 1, by omega, W, m, ρ, M, e1, e2, e3, by omega, e4⟩, fun x H' y => ?_⟩
    obtain ⟨W', le', e', mk', rv⟩ := g2 x H' y
    subst e'
    refine rg _ W' m σ ρ x d _ _ (R.mono le') rv (istep i d z ρ M q) fun σ' ρ' R' h' => ?_
    exact rb _ W' m σ' ρ' M _ _ R' mk' h' ⟨fun W m σ ρ M R mk h => ⟨W, m, ρ, M, rfl, R, mk, h⟩, k1.rt, k1.nx, fun W m σ ρ M R mk h => ⟨W, m, ρ, M, rfl, R, mk, h⟩, k1.ex⟩
/-- over a list that is frozen -/
def dItL (T : DTE) : DTA := fun ρ M Q E => T ρ M (fun x M' => match x with | .lst xs => Q xs M' | _ => False) E
def dItT (T : DTE) : DTA := fun ρ M Q E => T ρ M (fun x M' => match x with | .tup xs => Q xs M' | _ => False) E
theorem itl_ok {B : Bx} {W0 W1 : Wd} {a : Addr} {vs : List V} {ds : List D} (hs : ∀ W, W0.le W → Ex W1.F W.F → SqL B.K W.H a vs) (hv : RpAll B W1.F vs ds) : ItOk B W0 W1 (Itl B.K a) ds := fun i W m M le ex mk => by
  have sq := Evl.ex_l (cat_ex W.H m) (hs W le ex)
  refine ⟨fun d hd => ?_, fun hl => ⟨vs, sq, by rw [hv.length]; exact hl⟩⟩
  obtain ⟨v, h1, h2⟩ := hv.get hd
  refine ⟨⟨vs, v, sq, h1⟩, fun x H' y => ?_⟩
  obtain ⟨rfl, y⟩ := y
  have := y vs sq
  rw [h1] at this
  cases this
  exact ⟨W, Wd.le.refl W, rfl, mk, h2.mono ex⟩
theorem itt_ok {B : Bx} {W0 W1 : Wd} {a : Addr} {vs : List V} {ds : List D} (hs : ∀ W, W0.le W → Ex W1.F W.F → SqT B.K W.H a vs) (hv : RpAll B W1.F vs ds) : ItOk B W0 W1 (Itt B.K a) ds := fun i W m M le ex mk => by
  have sq := Evl.ex_t (cat_ex W.H m) (hs W le ex)
  refine ⟨fun d hd => ?_, fun hl => ⟨vs, sq, by rw [hv.length]; exact hl⟩⟩
  obtain ⟨v, h1, h2⟩ := hv.get hd
  refine ⟨⟨vs, v, sq, h1⟩, fun x H' y => ?_⟩
  obtain ⟨rfl, y⟩ := y
  have := y vs sq
  rw [h1] at this
  cases this
  exact ⟨W, Wd.le.refl W, rfl, mk, h2.mono ex⟩
/-- over a list that was lent -/
def dItB (i : Nat) : DTA := fun ρ M Q _ => match ga ρ i with | .bor (.lst ds) => Q ds M | .dat (.lst ds) => Q ds M | _ => False
theorem di_bor (i : Nat) {x : Str} (hN : X.N[i]? = some x := by rfl) (hv : Vis X.env.scope x := by first | exact Or.inl rfl | exact Or.inr (Or.inl rfl) | exact Or.inr (Or.inr rfl)) (hd : (x == ("__debug__" : Str)) = false := by decide)
    (hcd : (x == ("__classdict__" : Str)) = false := by decide) : DI X wx tg (.Name x pos) (dItB i) := by
  refine ⟨_, pi_list (pe_var hN hv hd hcd), fun W0 W m σ ρ M Q Qd Ed R mk h1 h2 h3 => ?_⟩
  unfold dItB at h1
  obtain ⟨le, _, ad, _, h4⟩ := id R
  have q := h4 i
  split at h1
  · rename_i ds z
    rw [z] at q
    obtain ⟨v, q1, q2⟩ := q
    have : ∃ b vs, v = .ref b ∧ (SqL X.K W0.H b vs ∨ SqL X.K W.F b vs) ∧ RpAll (bx X) W.F vs ds := by
      rcases q2 with ⟨b, vs, e1, e2, e3⟩ | q2
      · exact ⟨b, vs, e1, .inl e2, e3⟩
      · cases q2 with
        | lst e2 e3 => exact ⟨_, _, rfl, .inr e2, e3⟩
    obtain ⟨b, vs, rfl, q2, q3⟩ := this
    have hs : ∀ W', W0.le W' → Ex W.F W'.F → SqL X.K W'.H b vs := fun W' l ex => q2.elim (Evl.ex_l l.h) fun z => Evl.ex_l W'.ok (Evl.ex_l ex z)
    exact ⟨_, q1, _, rfl, ⟨_, Evl.ex_l (cat_ex W.H m) (hs W le (Ex.refl _))⟩, h2 _ _ W m M h1 (Wd.le.refl W) mk (itl_ok (B := bx X) hs q3)⟩
  · rename_i z
    rw [z] at q
    obtain ⟨v, q1, q2⟩ := q
    cases q2 with
    | lst h4 h5 => exact ⟨_, q1, _, rfl, ⟨_, Evl.ex_l (W.ok.trans (cat_ex W.H m)) h4⟩, h2 _ _ W m M h1 (Wd.le.refl W) mk (itl_ok (B := bx X) (fun W'' _ ex => Evl.ex_l W''.ok (Evl.ex_l ex h4)) h5)⟩
  · exact h1.elim
/-- range -/
def rngD (lo : Int) (n : Nat) : List D := (List.range n).map fun i => D.int (lo + (i : Nat))
theorem itr_ok {B : Bx} {W0 W1 : Wd} (lo : Int) (n : Nat) : ItOk B W0 W1 (Itr lo n) (rngD lo n) := fun i W m M le ex mk => by
  refine ⟨fun d hd => ?_, fun hl => by show n ≤ i; simpa [rngD] using hl⟩
  unfold rngD at hd
  rw [List.getElem?_map] at hd
  cases z : (List.range n)[i]? with
  | none => rw [z] at hd; cases hd
  | some j =>
    obtain ⟨hl, e⟩ := List.getElem?_eq_some_iff.mp z
    rw [List.getElem_range] at e
    subst e
    rw [z] at hd
    cases hd
    refine ⟨by show i < n; simpa using hl, fun x H' y => ?_⟩
    obtain ⟨rfl, rfl⟩ := y
    exact ⟨W, Wd.le.refl W, rfl, mk, .int _⟩
def dRng1 (R : DTA) : DTA := fun ρ M Q E => R ρ M (fun ds M' => match ds with | [.int j] => -(2 ^ 62) ≤ j ∧ j < 2 ^ 62 ∧ Q (rngD 0 j.toNat) M' | _ => False) E
def dRng2 (R : DTA) : DTA := fun ρ M Q E => R ρ M (fun ds M' => match ds with | [.int i, .int j] => (-(2 ^ 62) ≤ i ∧ i < 2 ^ 62 ∧ -(2 ^ 62) ≤ j ∧ j < 2 ^ 62) ∧ Q (rngD i (j - i).toNat) M' | _ => False) E
theorem rp_int {B : Bx} {F H : Hp} {v : V} {j : Int} (h : RpR B F H v (.int j)) : v = .int j := by cases h; rfl
theorem args_int {B : Bx} {W : Wd} {ms : List Bool} {vs : List V} : ∀ {js : List Int}, ArgsOk B W ms vs (js.map D.int) → vs = js.map V.int := fun {js} h => by
  induction js generalizing ms vs with
  | nil => cases h; rfl
  | cons j js ih =>
    cases h with
    | dat r t => cases r; rw [ih t]; rfl
    | bor r t => rw [rp_int r, ih t]; rfl
theorem di_range1 {ms : List Bool} {Ra : DTA} {p : Pos} (hm : X.mg "range" = none) (ha : DM X wx ms [a] Ra) (hg : Gl X "range" := by rfl) (hs : starEach [a] X.env = [(false, eval a X.env)] := by rfl) : DI X wx tg (.Call (.Name "range" p) [a] [] pos) (dRng1 Ra) := by
  obtain ⟨t, pa, r⟩ := ha
  refine ⟨_, pi_range1 hg hm pa hs, fun W0 W m σ ρ M Q Qd Ed R mk h1 h2 h3 => r W0 W m σ ρ M _ _ _ R mk h1 (fun ds vs W' m' M' q le mk' hv => ?_) h3⟩
  split at q
  · rename_i j
    have e := args_int (js := [j]) hv
    subst e
    exact ⟨j, rfl, q.1, q.2.1, h2 _ _ W' m' M' q.2.2 le mk' (itr_ok 0 j.toNat)⟩
  · exact q.elim
theorem di_range2 {ms : List Bool} {Ra : DTA} {p : Pos} (hm : X.mg "range" = none) (ha : DM X wx ms [a, b] Ra) (hg : Gl X "range" := by rfl) (hs : starEach [a, b] X.env = [(false, eval a X.env), (false, eval b X.env)] := by rfl) (hs2 : starEach [b] X.env = [(false, eval b X.env)] := by rfl) : DI X wx tg (.Call (.Name "range" p) [a, b] [] pos) (dRng2 Ra) := by
  obtain ⟨t, pa, r⟩ := ha
  refine ⟨_, pi_range2 hg hm pa hs hs2, fun W0 W m σ ρ M Q Qd Ed R mk h1 h2 h3 => r W0 W m σ ρ M _ _ _ R mk h1 (fun ds vs W' m' M' q le mk' hv => ?_) h3⟩
  split at q
  · rename_i i j
    have e := args_int (js := [i, j]) hv
    subst e
    exact ⟨i, j, rfl, q.1, h2 _ _ W' m' M' q.2 le mk' (itr_ok i (j - i).toNat)⟩
  · exact q.elim
/-- enumerate of a frozen list -/
def enumD (xs : List D) : List D := xs.zipIdx.map fun p => D.tup [.int (p.2 : Nat), p.1]
theorem enumD_get {xs : List D} {i : Nat} {d : D} (h : (enumD xs)[i]? = some d) : ∃ x, xs[i]? = some x ∧ d = .tup [.int (i : Nat), x] := by
  unfold enumD at h
  rw [List.getElem?_map, List.getElem?_zipIdx] at h
  cases z : xs[i]? with
  | none => rw [z] at h; cases h
  | some x => rw [z] at h; simp at h; exact ⟨x, rfl, h.symm⟩
def dEnum (R : DTA) : DTA := fun ρ M Q E => R ρ M (fun ds M' => match ds with | [.lst xs] => Q (enumD xs) M' | _ => False) E
theorem di_enum {ms : List Bool} {Ra : DTA} {p tpos : Pos} {elts : List Expr} {kk : Nat} (hm : X.mg "enumerate" = none) (ha : DM X wx ms [a] Ra) (hms : ms.any id = false := by rfl) (hg : Gl X "enumerate" := by rfl) (hs : starEach [a] X.env = [(false, eval a X.env)] := by rfl) : DI X wx (.Tuple elts kk tpos) (.Call (.Name "enumerate" p) [a] [] pos) (dEnum Ra) := by
  obtain ⟨t, pa, r⟩ := ha
  refine ⟨_, pi_enum hg hm pa hs, fun W0 W m σ ρ M Q Qd Ed R mk h1 h2 h3 => r W0 W m σ ρ M _ _ _ R mk h1 (fun ds vs W' m' M' q le mk' hv => ?_) h3⟩
  have hv := hv.all hms
  split at q
  · rename_i xs
    cases hv with
    | cons r1 t1 =>
      cases t1
      cases r1 with
      | lst h4 h5 =>
        rename_i aa vv
        refine ⟨aa, vv, rfl, Evl.ex_l (W'.ok.trans (cat_ex W'.H m')) h4, h2 _ _ W' m' M' q le mk' fun i W2 m2 M2 le2 ex mk2 => ?_⟩
        have sq : SqL X.K (cat W2.H m2) aa vv := Evl.ex_l (W2.ok.trans (cat_ex W2.H m2)) (Evl.ex_l ex h4)
        refine ⟨fun d hd => ?_, fun hl => ⟨vv, sq, by rw [h5.length]; simpa [enumD] using hl⟩⟩
        obtain ⟨x, hx, rfl⟩ := enumD_get hd
        obtain ⟨v, g1, g2⟩ := h5.get hx
        refine ⟨⟨vv, v, sq, g1⟩, fun x' H' y => ?_⟩
        obtain ⟨T, x2, rfl, hT, rfl, y⟩ := y
        have := y vv sq
        rw [g1] at this
        cases this
        have hT1 := (cat_new hT).1
        exact ⟨W2.new T _, W2.le_new hT1, cat_upd.symm, mk2.new hT, .tup (SqT.of (upd_same (H := W2.F))) (.cons (.int _) (.cons ((g2.mono ex).mono (W2.le_new hT1).f) .nil))⟩
  · exact q.elim
/-- the signs of a text -/
def signsD (x : Str) : List D := x.cps.toList.map fun c => D.str ⟨#[c]⟩
/-- over a list, a tuple or a text -/
def dItA (T : DTE) : DTA := fun ρ M Q E => T ρ M (fun x M' => match x with | .lst xs => Q xs M' | .tup xs => Q xs M' | .str z => Q (signsD z) M' | .dic _ ks => Q (ks.map (·.1)) M' | _ => False) E
theorem its_ok {B : Bx} {W0 W1 : Wd} (z : Str) : ItOk B W0 W1 (Its z) (signsD z) := fun i W2 m M le2 ex mk => by
  refine ⟨fun d hd => ?_, fun hl => by show z.cps.size ≤ i; simpa [signsD] using hl⟩
  unfold signsD at hd
  rw [List.getElem?_map] at hd
  cases y : z.cps.toList[i]? with
  | none => rw [y] at hd; cases hd
  | some c =>
    rw [y] at hd
    cases hd
    have y' : z.cps[i]? = some c := by simpa using y
    refine ⟨(Array.getElem?_eq_some_iff.mp y').1, fun x H' w => ?_⟩
    obtain ⟨rfl, c', e, rfl⟩ := w
    rw [y'] at e
    cases e
    exact ⟨W2, Wd.le.refl W2, rfl, mk, .str _⟩
/-! ### over a dict -/
def ItK (d : Addr) (o : HO) (n : Nat) (f : Nat → Option V) : It := ⟨fun i H => H d = some o ∧ i < n, fun i H x H' => H' = H ∧ f i = some x, fun i H => H d = some o ∧ n ≤ i⟩
theorem dk_frz {pins : List (Addr × Obj)} {σ : L2.St} {H : Hp} {s : Shared} {d : Addr} {o : Obj} {kvs : List (Key × V)} (I : Inv X pins σ H s) (h : H d = some (.ext (DkAt (bx X) d o kvs))) :
    (d == sysModules) = false ∧ s.heap.get? d = some o ∧ o.ExactDict ∧ ∃ (es : Array DictEntry) (ep : Nat) (vs : List (Key × Value)), o.data = .dict es ep ∧ es.size = kvs.length ∧ KV kvs vs ∧ s.heap.DictAt (mixKind X.prog X.w) d vs ep := by
  obtain ⟨hd, z, hs, vs, kv, o', es, ep, ho, hx, hdt, r⟩ := dk_at I h
  rw [hd] at ho
  cases ho
  refine ⟨hs, hd, hx, es, ep, vs, hdt, ?_, kv, o, es, hd, hx, hdt, r⟩
  have l1 := r.2.1.length
  have l2 : kvs.length = vs.length := Paired.length kv
  rw [Array.length_toList] at l1
  omega
theorem turnK {P : Program} {w : World} {K : PySem.W.Frag} {mg : Str → Option Value} {d : Addr} {o : Obj} {es : Array DictEntry} {ep : Nat} {kvs : List (Key × V)} (it : Addr) (hod : o.data = .dict es ep) :
    Turn P w K tg (ItK d (.ext (DkAt ⟨P, w, K, mg⟩ d o kvs)) kvs.length fun i => (kvs[i]?).map fun p => kV p.1) [it] it (fun i h => h.IsKeyIter it d i kvs.length ep) where
  mem := by simp
  obj := fun i h st b hb => by
    have e : b = it := by simpa using hb
    subst e
    obtain ⟨oi, e, c, dd⟩ := st
    exact ⟨oi, e, fun v z => by rw [dd] at z; cases z⟩
  keep := fun i h h' st k => st.at fun oi e => k it (by simp) oi e
  item := by
    intro X hP hw hK hc i pins s σ H E I hf st hg
    subst hP hw hK
    obtain ⟨hd, hi⟩ := hg
    obtain ⟨f0, f1, f2, f3, f4, f5⟩ := hf it (by simp)
    obtain ⟨hs, hgd, hx, es', ep', vs, hdt, hsz, kv, hm⟩ := dk_frz (X := X) I hd
    obtain ⟨rfl, rfl⟩ := dict_ep hod hdt
    obtain ⟨⟨k, v⟩, hkv⟩ : ∃ p, kvs[i]? = some p := ⟨kvs[i], List.getElem?_eq_getElem hi⟩
    obtain ⟨u, hu, ru⟩ := kv_get kv hkv
    have hl : kvs.length = vs.length := Paired.length kv
    rw [hl] at st
    refine wpAny_pyNext_dict_item st hm hu fun key h' hkey st' sb => ?_
    have I1 : Inv X pins σ H { s with heap := h' } := I.turned (t' := s.toks) (fun b ob hb e => (sb.2 b hb).trans e) f0 f1 f3 f4 f5
    obtain ⟨oi, e, c, dd⟩ := id st'
    refine ⟨key, rfl, go_of (s := { s with heap := h' }) e c dd (by decide) ⟨kV k, H, I1, relV_key (show keyIs k key = true from hkey), ⟨rfl, by show Option.map _ _ = _; rw [hkv]; rfl⟩, ?_, fun b hb => (hf b hb).1⟩⟩
    show h'.IsKeyIter it d (i + 1) kvs.length _
    rw [hl]
    exact st'
  done := by
    intro X hP hw hK hc i pins s σ H E I hf st hg
    subst hP hw hK
    obtain ⟨hd, hi⟩ := hg
    obtain ⟨f0, f1, f2, f3, f4, f5⟩ := hf it (by simp)
    obtain ⟨hs, hgd, hx, es', ep', vs, hdt, hsz, kv, hm⟩ := dk_frz (X := X) I hd
    obtain ⟨rfl, rfl⟩ := dict_ep hod hdt
    exact next_key_end (I.ok.hd hc) st hgd hdt hsz hi fun h' eb => ⟨rfl, I.turned (t' := s.toks) (fun b ob hb e => eb b ob hb e) f0 f1 f3 f4 f5⟩
  self := fun A i s Q E st h => wpAny_pyIter_keyiter st h
theorem turnX {P : Program} {w : World} {K : PySem.W.Frag} {mg : Str → Option Value} {d : Addr} {o : Obj} {es : Array DictEntry} {ep : Nat} {xs : List (NestedKey × Addr × Value)} (it : Addr) (hod : o.data = .dict es ep) :
    Turn P w K tg (ItK d (.ext (RawD ⟨P, w, K, mg⟩ d o xs)) xs.length fun i => (xs[i]?).map fun x => .ref x.2.1) [it] it (fun i h => h.IsKeyIter it d i xs.length ep) where
  mem := by simp
  obj := fun i h st b hb => by
    have e : b = it := by simpa using hb
    subst e
    obtain ⟨oi, e, c, dd⟩ := st
    exact ⟨oi, e, fun v z => by rw [dd] at z; cases z⟩
  keep := fun i h h' st k => st.at fun oi e => k it (by simp) oi e
  item := by
    intro X hP hw hK hc i pins s σ H E I hf st hg
    subst hP hw hK
    obtain ⟨hd, hi⟩ := hg
    obtain ⟨f0, f1, f2, f3, f4, f5⟩ := hf it (by simp)
    obtain ⟨hgd, z, hs, hx, hnd, es', ep', hdt, he⟩ := (I.hok d _ hd).1
    obtain ⟨rfl, rfl⟩ := dict_ep hod hdt
    have hsz : es'.size = xs.length := size_of_entries he
    obtain ⟨x, hkv⟩ : ∃ p, xs[i]? = some p := ⟨xs[i], List.getElem?_eq_getElem hi⟩
    have hen := entry_at he i
    rw [hkv] at hen
    refine next_key_item st hgd hdt hsz hen fun h' st' sb => ?_
    have I1 : Inv X pins σ H { s with heap := h' } := I.turned (t' := s.toks) (fun b ob hb e => (sb.2 b hb).trans e) f0 f1 f3 f4 f5
    obtain ⟨oi, e, c, dd⟩ := id st'
    exact ⟨_, rfl, go_of (s := { s with heap := h' }) e c dd (by decide) ⟨.ref x.2.1, H, I1, rfl, ⟨rfl, by show Option.map _ _ = _; rw [hkv]; rfl⟩, st', fun b hb => (hf b hb).1⟩⟩
  done := by
    intro X hP hw hK hc i pins s σ H E I hf st hg
    subst hP hw hK
    obtain ⟨hd, hi⟩ := hg
    obtain ⟨f0, f1, f2, f3, f4, f5⟩ := hf it (by simp)
    obtain ⟨hgd, z, hs, hx, hnd, es', ep', hdt, he⟩ := (I.hok d _ hd).1
    obtain ⟨rfl, rfl⟩ := dict_ep hod hdt
    have hsz : es'.size = xs.length := size_of_entries he
    exact next_key_end (I.ok.hd hc) st hgd hdt hsz hi fun h' eb => ⟨rfl, I.turned (t' := s.toks) (fun b ob hb e => eb b ob hb e) f0 f1 f3 f4 f5⟩
  self := fun A i s Q E st h => wpAny_pyIter_keyiter st h
def iAny (B : Bx) (tl : TE) : TI := fun σ H R => tl σ H fun x H1 => (∃ a, x = .ref a ∧ (∃ xs, SqL B.K H1 a xs) ∧ R (Itl B.K a) H1) ∨ (∃ a, x = .ref a ∧ (∃ xs, SqT B.K H1 a xs) ∧ R (Itt B.K a) H1) ∨ (∃ z, x = .str z ∧ R (Its z) H1) ∨ (∃ a o kv, x = .ref a ∧ H1 a = some (.ext (DkAt B a o kv)) ∧ R (ItK a (.ext (DkAt B a o kv)) kv.length fun i => (kv[i]?).map fun p => kV p.1) H1) ∨ ∃ a o xs, x = .ref a ∧ H1 a = some (.ext (RawD B a o xs)) ∧ R (ItK a (.ext (RawD B a o xs)) xs.length fun i => (xs[i]?).map fun x => .ref x.2.1) H1
theorem pi_any {l : Expr} {tl : TE} (hl : PE X l tl) : PI X tg l (iAny (bx X) tl) := by
  refine ⟨fun pins s σ H R I h => ?_⟩
  refine thn (hl.run pins s σ H _ I h) fun v s1 ⟨x, H1, I1, r1, q1⟩ => ?_
  rcases q1 with ⟨a, e, ⟨xs, hq⟩, q⟩ | ⟨a, e, ⟨xs, hq⟩, q⟩ | ⟨z, e, q⟩ | ⟨d, o, kv, e, hd, q⟩ | ⟨d, o, xs, e, hd, q⟩
  · subst e
    cases r1
    obtain ⟨its, rv, p, hz⟩ := I1.list hq
    refine wpAny_pyIter_list p.isList ?_
    refine ⟨s1.heap.objs.size, [s1.heap.objs.size], _, _, H1, rfl, I1.kept (t' := s1.toks) fun b o e => Heap.get?_push_of_some _ e, turn_list a _, ⟨_, Heap.get?_push_size _ rfl, rfl, rfl⟩, fun b hb => ?_, q⟩
    have e : b = s1.heap.objs.size := by simpa using hb
    subst e
    exact I1.fpOk (Nat.le_refl _) (I1.hok.fresh (Nat.le_refl _))
  · subst e
    cases r1
    obtain ⟨its, rv, p, hz⟩ := I1.tuple hq
    refine wpAny_pyIter_tuple (show s1.heap.IsTuple a its.toArray from p) ?_
    refine ⟨s1.heap.objs.size, [s1.heap.objs.size], _, _, H1, rfl, I1.kept (t' := s1.toks) fun b o e => Heap.get?_push_of_some _ e, turn_tuple a _, ⟨_, Heap.get?_push_size _ rfl, rfl, rfl⟩, fun b hb => ?_, q⟩
    have e : b = s1.heap.objs.size := by simpa using hb
    subst e
    exact I1.fpOk (Nat.le_refl _) (I1.hok.fresh (Nat.le_refl _))
  · subst e
    obtain ⟨t, rfl⟩ := r1
    cases ha : z.cps.all (· < 128)
    · exact wpAny_pyIter_wide ha (pi_one (tk := s1.toks) I1 _ (turn_str _ z t "str_iterator" (.inr rfl)) ⟨_, Heap.get?_push_size _ rfl, rfl, rfl⟩ q)
    · exact wpAny_pyIter_ascii ha (pi_one (tk := s1.toks) I1 _ (turn_str _ z t "str_ascii_iterator" (.inl rfl)) ⟨_, Heap.get?_push_size _ rfl, rfl, rfl⟩ q)
  · subst e
    cases r1
    obtain ⟨hs, hgd, hx, es, ep, vs, hdt, hsz, kv', hm⟩ := dk_frz I1 hd
    refine iter_keys hs hgd hx hdt (pi_one (tk := s1.toks) I1 _ (turnK _ hdt) ⟨_, Heap.get?_push_size _ rfl, rfl, ?_⟩ q)
    rw [hsz] <;> rfl
  · subst e
    cases r1
    obtain ⟨hgd, z, hs, hx, hnd, es, ep, hdt, he⟩ := (I1.hok d _ hd).1
    have hsz : es.size = xs.length := size_of_entries he
    refine iter_keys hs hgd hx hdt (pi_one (tk := s1.toks) I1 _ (turnX _ hdt) ⟨_, Heap.get?_push_size _ rfl, rfl, ?_⟩ q)
    rw [hsz] <;> rfl
theorem di_any (he : DE X wx iter T) : DI X wx tg iter (dItA T) := by
  obtain ⟨t, p, r⟩ := he
  refine ⟨_, pi_any p, fun W0 W m σ ρ M Q Qd Ed R mk h1 h2 h3 => r W0 W m σ ρ M _ _ _ R mk h1 (fun d v W' m' M' q le mk' hv => ?_) h3⟩
  have ok := W'.ok.trans (cat_ex W'.H m')
  cases d with
  | lst xs =>
    cases hv with
    | lst h4 h5 => exact .inl ⟨_, rfl, ⟨_, Evl.ex_l ok h4⟩, h2 xs _ W' m' M' q le mk' (itl_ok (B := bx X) (fun W'' _ ex => Evl.ex_l W''.ok (Evl.ex_l ex h4)) h5)⟩
  | tup xs =>
    cases hv with
    | tup h4 h5 => exact .inr (.inl ⟨_, rfl, ⟨_, Evl.ex_t ok h4⟩, h2 xs _ W' m' M' q le mk' (itt_ok (B := bx X) (fun W'' _ ex => Evl.ex_t W''.ok (Evl.ex_t ex h4)) h5)⟩)
  | str z => cases hv; exact .inr (.inr (.inl ⟨z, rfl, h2 _ _ W' m' M' q le mk' (its_ok z)⟩))
  | dic t ks =>
    cases hv with
    | dic h4 h5 =>
      rename_i a o kv
      refine .inr (.inr (.inr (.inl ⟨a, o, kv, rfl, ok _ _ h4, h2 _ _ W' m' M' q le mk' fun i W2 m2 M2 le2 ex mk2 => ?_⟩)))
      have hc := (W2.ok.trans (cat_ex W2.H m2)) _ _ (ex _ _ h4)
      refine ⟨fun d hd => ?_, fun hl => ⟨hc, by rw [List.length_map] at hl; rw [h5.len]; exact hl⟩⟩
      rw [List.getElem?_map] at hd
      obtain ⟨p, hp, e⟩ := Option.map_eq_some_iff.mp hd
      obtain ⟨k, v, e1, e2⟩ := h5.at hp
      refine ⟨⟨hc, (List.getElem?_eq_some_iff.mp e1).1⟩, fun x H' y => ?_⟩
      obtain ⟨rfl, y⟩ := y
      have y : Option.map (fun p => kV p.1) kv[i]? = some x := y
      rw [e1] at y
      cases y
      refine ⟨W2, Wd.le.refl W2, rfl, mk2, ?_⟩
      rw [← e, e2]
      cases k with
      | inl i => exact .int i
      | inr x => exact .str x
    | dit h4 h5 =>
      rename_i a o xs
      refine .inr (.inr (.inr (.inr ⟨a, o, xs, rfl, ok _ _ h4, h2 _ _ W' m' M' q le mk' fun i W2 m2 M2 le2 ex mk2 => ?_⟩)))
      have hc := (W2.ok.trans (cat_ex W2.H m2)) _ _ (ex _ _ h4)
      refine ⟨fun d hd => ?_, fun hl => ⟨hc, by rw [List.length_map] at hl; rw [h5.len]; exact hl⟩⟩
      rw [List.getElem?_map] at hd
      obtain ⟨p, hp, e⟩ := Option.map_eq_some_iff.mp hd
      obtain ⟨x0, e1, e2⟩ := h5.at hp
      refine ⟨⟨hc, (List.getElem?_eq_some_iff.mp e1).1⟩, fun x H' y => ?_⟩
      obtain ⟨rfl, y⟩ := y
      have y : Option.map (fun x => V.ref x.2.1) xs[i]? = some x := y
      rw [e1] at y
      cases y
      refine ⟨W2, Wd.le.refl W2, rfl, mk2, ?_⟩
      rw [← e]
      exact e2.mono ex
  | _ => exact q.elim
end
end Z

namespace Z
open PySem PySem.Spec PyProof.Rows L2
open Evl (Ex)

/-! ### defs and their calls -/
def liftSp (B : Bx) (ms : List Bool) (sp : SpM) : Sp := fun vs H Q E => ∃ (W : Wd) (m : Hp) (M : Mu) (ds : List D) (Qd : D → Mu → Prop) (Ed : Str → Mu → Prop), cat W.H m = H ∧ MOk B W M m ∧ ArgsOk B W ms vs ds ∧ sp ds M Qd Ed ∧
  (∀ d v W' m' M', Qd d M' → W.le W' → MOk B W' M' m' → Rp B W'.F v d → Q v (cat W'.H m')) ∧ (∀ C W' m' M', Ed C M' → W.le W' → MOk B W' M' m' → E (.ref (B.cl C)) none (cat W'.H m'))
/-- the def at f keeps its promise -/
abbrev FnB (B : Bx) (base : Heap) (k : Nat) (f : Addr) (fd : FuncData) (ps : List Str) (ms : List Bool) (sp : SpM) : Prop := FnOk B.P B.w B.K B.mg base (L2.CX B.P B.w) k f fd ps (liftSp B ms sp)
theorem liftSp.imp {B : Bx} {ms : List Bool} {sp sp' : SpM} (hs : ∀ ds M Q E, sp' ds M Q E → sp ds M Q E) {vs : List V} {H : Hp} {Q : VK} {E : XK} : liftSp B ms sp' vs H Q E → liftSp B ms sp vs H Q E :=
  fun ⟨W, m, M, ds, Qd, Ed, a, b, c, d, e⟩ => ⟨W, m, M, ds, Qd, Ed, a, b, c, hs _ _ _ _ d, e⟩
structure Fn (B : Bx) (base : Heap) (k : Nat) (x : Str) (ms : List Bool) (sp : SpM) : Prop where
  ex : ∃ f fd ps, FnB B base k f fd ps ms sp ∧ B.mg x = some (.ref f) ∧ PySem.W.keepIn B.K (.ref f) = true ∧ Binds B.K fd ps []
theorem Fn.imp {B : Bx} {base : Heap} {k : Nat} {x : Str} {ms : List Bool} {sp sp' : SpM} (h : Fn B base k x ms sp) (hs : ∀ ds M Q E, sp' ds M Q E → sp ds M Q E) : Fn B base k x ms sp' := by
  obtain ⟨f, fd, ps, F, h1, h2, h3⟩ := h.ex
  exact ⟨f, fd, ps, F.imp fun vs H Q E => liftSp.imp hs, h1, h2, h3⟩
theorem Fn.up {B : Bx} {base : Heap} {k j : Nat} {x : Str} {ms : List Bool} {sp : SpM} (h : Fn B base k x ms sp) (hk : k ≤ j) : Fn B base j x ms sp := by
  obtain ⟨f, fd, ps, F, h1, h2, h3⟩ := h.ex
  exact ⟨f, fd, ps, F.mono hk, h1, h2, h3⟩
section
variable {X : Cx} {wx : WX} {e : Expr} {es : List Expr} {pos p : Pos}
def dCall (sp : SpM) (R : DTA) : DTE := fun ρ M Q E => R ρ M (fun ds M' => sp ds M' Q E) E
theorem rf_call {B : Bx} {ms : List Bool} {t : TA} {R : DTA} {sp : SpM} {e : Str → Addr} (h : RfM B wx ms t R) : RfE B wx (tCallS (liftSp B ms sp) (WE wx) t) (dCall sp R) := fun W0 W m σ ρ M Q Qd Ed Re k h1 h2 h3 => by
  refine h W0 W m σ ρ M _ _ Ed Re k h1 (fun ds vs W' m' M' q le k' hv => ?_) h3
  exact ⟨W', m', M', ds, Qd, Ed, rfl, k', hv, q, fun d v W'' m'' M'' q2 le2 k2 hv2 => h2 d v W'' m'' M'' q2 (le.trans le2) k2 hv2, fun C W'' m'' M'' q2 le2 k2 => h3 C W'' m'' M'' q2 (le.trans le2) k2⟩
theorem de_call {x : Str} {k j : Nat} {ms : List Bool} {sp : SpM} {R : DTA} (F : Fn (bx X) X.base k x ms sp) (hr : Room j X.A) (tk : Takes X wx) (hk : k ≤ j) (ha : DM X wx ms (e :: es) R) (hg : Gl X x := by rfl) (hdb : (x == ("__debug__" : Str)) = false := by decide)
    (he : starEach (e :: es) X.env = (false, eval e X.env) :: starEach es X.env := by rfl) (hpl : (backTo pos (starEach es X.env)).any (·.1) = false := by rfl) : DE X wx (.Call (.Name x p) (e :: es) [] pos) (dCall sp R) := by
  obtain ⟨f, fd, ps, G, h1, h2, h3⟩ := F.ex
  obtain ⟨t, pa, ra⟩ := ha
  exact ⟨_, pe_callS G (hr.mono hk) hg h1 h2 h3 (fun σ => passAt tk σ) pa hdb he hpl, rf_call (e := fun _ => 0) ra⟩
end
def entOf (m : Bool) (d : D) : Ent := if m = true then .bor d else .dat d
def startE : List Bool → Nat → List D → List Ent
  | _, 0, _ => []
  | ms, n + 1, [] => .un :: startE ms n []
  | [], n + 1, d :: ds => .dat d :: startE [] n ds
  | m :: ms, n + 1, d :: ds => entOf m d :: startE ms n ds
theorem ga_un : ∀ (ms : List Bool) (n i : Nat), ga (startE ms n []) i = .un
  | _, 0, _ => rfl
  | _, _ + 1, 0 => rfl
  | ms, n + 1, i + 1 => ga_un ms n i
theorem startE_len : ∀ (ms : List Bool) (n : Nat) (ds : List D), (startE ms n ds).length = n
  | _, 0, _ => rfl
  | ms, n + 1, [] => congrArg (· + 1) (startE_len ms n [])
  | [], n + 1, _ :: ds => congrArg (· + 1) (startE_len [] n ds)
  | _ :: ms, n + 1, _ :: ds => congrArg (· + 1) (startE_len ms n ds)
section
variable {B : Bx} {W : Wd}
theorem EntOk.shift {W0 : Wd} {σ : L2.St} {s : Option V} {i : Nat} {a : Addr} {e : Ent} (h : EntOk B W0 W σ i a e) : EntOk B W0 W (s :: σ) (i + 1) a e := by
  cases e with
  | un => trivial
  | dat d => exact h
  | own ds => exact h
  | bor ds => exact h
  | dk _ ds => exact h
theorem entOf_own (m : Bool) (d : D) : (entOf m d).ownd = false := by
  cases m <;> rfl
theorem entOf_ok {m : Bool} {v : V} {d : D} {σ : L2.St} {a : Addr} (h : if m = true then RpR B W.F W.H v d else Rp B W.F v d) : EntOk B W W (some v :: σ) 0 a (entOf m d) := by
  cases m with
  | false => exact ⟨v, rfl, h⟩
  | true => exact ⟨v, rfl, .inl h⟩
theorem rel_slots {m : Nat} {a : Addr} {ms : List Bool} {vs : List V} {ds : List D} (h : ArgsOk B W ms vs ds) : ∀ i, EntOk B W W (vs.map some ++ List.replicate m none) i a (ga (startE ms (ds.length + m) ds) i) := by
  induction h with
  | nil => intro i; rw [ga_un]; trivial
  | @dat ms v vs d ds r _ ih =>
    intro i
    have e : (d :: ds).length + m = (ds.length + m) + 1 := by simp only [List.length_cons]; omega
    rw [e]
    cases i with
    | zero => exact entOf_ok (m := false) r
    | succ i => exact (ih i).shift
  | @bor ms v vs d ds r _ ih =>
    intro i
    have e : (d :: ds).length + m = (ds.length + m) + 1 := by simp only [List.length_cons]; omega
    rw [e]
    cases i with
    | zero => exact entOf_ok (m := true) r
    | succ i => exact (ih i).shift
theorem start_own : ∀ (ms : List Bool) (n : Nat) (ds : List D) (i : Nat), (ga (startE ms n ds) i).ownd = false
  | _, 0, _, _ => rfl
  | ms, n + 1, [], i => by rw [ga_un]; rfl
  | [], n + 1, d :: ds, 0 => rfl
  | [], n + 1, d :: ds, i + 1 => start_own [] n ds i
  | m :: ms, n + 1, d :: ds, 0 => entOf_own m d
  | m :: ms, n + 1, d :: ds, i + 1 => start_own ms n ds i
theorem rel_start {N : List Str} {ms : List Bool} {vs : List V} {ds : List D} (h : ArgsOk B W ms vs ds) (hn : vs.length ≤ N.length) : Rel B W W (L2.start N vs) (startE ms N.length ds) := by
  have hl := h.length
  refine ⟨Wd.le.refl W, ?_, fun _ => 0, fun i j _ hi => ?_, fun i => ?_⟩
  · rw [startE_len]
    unfold L2.start
    rw [List.length_append, List.length_map, List.length_replicate]
    omega
  · rw [start_own] at hi; cases hi
  · have e : N.length = ds.length + (N.length - vs.length) := by omega
    have q := rel_slots (m := N.length - vs.length) (a := 0) h i
    rw [← e] at q
    exact q
theorem ms_len {ms : List Bool} {vs : List V} {ds : List D} (h : ArgsOk B W ms vs ds) : vs.length = ms.length := by
  induction h with
  | nil => rfl
  | dat _ _ ih => exact congrArg (· + 1) ih
  | bor _ _ ih => exact congrArg (· + 1) ih
end
section
variable {B : Bx} {base : Heap}
/-- what is wanted at a def's end -/
def endsOf (Q : D → Mu → Prop) (E : Str → Mu → Prop) : DEnds := ⟨fun _ M => Q .non M, Q, fun _ _ => False, fun _ _ => False, fun C _ => E C⟩
/-- the place of a def's body -/
abbrev cxF (B : Bx) (base : Heap) (N : List Str) (qual : Str) (sc : Scope) (f : Addr) (cdv : Value) (A : Around) (outer : List Env) (s : Shared) (H : Hp) (E : XK) : Cx := cxOf (L2.CX B.P B.w) B.P B.w B.K B.mg base N qual sc f cdv A outer s H E
abbrev wxF (E : XK) : WX := fun cls d _ H => E cls d H
/-- a def by its body's conditions over data -/
theorem fnok_of {x qual : Str} {pm : Arguments} {bd : List Stmt} {sc : Scope} {dvs : List V} {kws : List (Str × V)} {f : Addr} {fd : FuncData} {N ps : List Str} {ms : List Bool} {sp : SpM} {T : DTS} {k : Nat} (F : FunD B.K x qual pm bd sc dvs kws f fd) (S : FnScope N ps sc)
    (body : ∀ (cdv : Value) (A : Around) (outer : List Env) (s : Shared) (H : Hp) (E : XK), Room k (cxF B base N qual sc f cdv A outer s H E).A → Takes (cxF B base N qual sc f cdv A outer s H E) (wxF E) →
      PassesOwn (model B.P B.w) (cxF B base N qual sc f cdv A outer s H E).A (cxF B base N qual sc f cdv A outer s H E).env (cxF B base N qual sc f cdv A outer s H E).xe →
      DSs (cxF B base N qual sc f cdv A outer s H E) (wxF E) bd T)
    (spec : ∀ ds M Q E, sp ds M Q E → T (endsOf Q E) (startE ms N.length ds) M) (hl : ms.length = ps.length := by rfl) : FnB B base (k + 1) f fd ps ms sp := by
  refine F.ok S (fun vs H Q E h => ?_) (fun cdv A outer s H vs Q E hr h => ?_)
  · obtain ⟨W, m, M, ds, Qd, Ed, _, _, hA, _⟩ := h
    rw [ms_len hA, hl]
  · obtain ⟨W, m, M, ds, Qd, Ed, rfl, mk, hA, hsp, h1, h2⟩ := h
    obtain ⟨t, p, r⟩ := body cdv A outer s (cat W.H m) E hr (takes_of rfl rfl rfl rfl) (passes_of rfl)
    refine ⟨t, p, ?_⟩
    have hp : ps.length ≤ N.length := by
      have := congrArg List.length S.pre
      rw [List.length_take] at this
      omega
    refine r W W m _ _ M _ _ (rel_start hA (by rw [ms_len hA, hl]; exact hp)) mk (spec ds M Qd Ed hsp) ⟨fun W' m' σ ρ M' R mk' q => ?_, fun d v W' m' M' le mk' rv q => ?_, fun _ _ _ _ _ _ _ q => q.elim, fun _ _ _ _ _ _ _ q => q.elim, fun C W' m' σ ρ M' R mk' q => ?_⟩
    · exact h1 .non .non W' m' M' q R.le mk' .non
    · exact h1 d v W' m' M' q le mk' rv
    · exact h2 C W' m' M' q R.le mk'
theorem Fn.mk' {x qual : Str} {pm : Arguments} {bd : List Stmt} {sc : Scope} {f : Addr} {fd : FuncData} {ps : List Str} {ms : List Bool} {sp : SpM} {k : Nat} (F : FunD B.K x qual pm bd sc [] [] f fd) (hm : B.mg x = some (.ref f)) (hb : Binds B.K fd ps []) (G : FnB B base k f fd ps ms sp) : Fn B base k x ms sp := ⟨f, fd, ps, G, hm, F.kp, hb⟩
end
/-! ### the law's end -/
section
variable {l : PySem.W.OpenLaw} {k : Nat} {q : Program} {loose : List Str} {XP : (Str → Option Value) → Heap → Prop} {YP : World → Heap → Prop} {d : DefRec} {x : Str}
/-- the law walked: its def keeps the promise of a law -/
theorem walkZ (hn : l.most = some 63) (hdf : d.params.defaults = []) (hr : Room k callerA)
    (F : ∀ (w : World) (mg : Str → Option Value) (fa : Addr) (h : Heap), YP w h → h.Ns mainGlobals mg → mg d.name = some (.ref fa) → ∃ (K : PySem.W.Frag) (fd : FuncData) (sp : Sp), K.In h ∧ (∀ (s : Shared) (u : Value), BindsTo s fd ⟨[u], []⟩ [(x, u)]) ∧
      (∀ (H : Hp) (a : Addr) (ns : List Int), ns.length ≤ 63 → SqL K H a (ns.map V.int) → sp [.ref a] H (fun v _ => v = .bl true) fun _ _ _ => False) ∧
      ∀ base : Heap, K.In base → base.Ns mainGlobals mg → FnOk l.prog w K mg base (L2.CX l.prog w) k fa fd [x] sp) :
    PySem.W.WalkO q loose XP YP l.row.toRowW d [] (fun f vs => PySem.call f vs) := by
  refine Att.attach_call hn hdf fun w s₀ s₁ mg mb fa o pm cd doc a vs ns G Y ho hd hcd hmg hobj hints hlen hg => ?_
  obtain ⟨K, fd, sp, KX, hb, hsp, hF⟩ := F w mg fa _ Y G.T.g hmg
  refine law_call KX G.T.g G.T.b G.T.builtins G.T.nolimit hg hobj hints (Nat.le_trans hlen (by decide)) hr hF hb (fun H _ hS => hsp H a ns hlen hS) fun H e s' z => ?_
  obtain ⟨_, _, _, _, _, _, _, _, _, _, _, _, z⟩ := z
  exact z
end
def spLaw : SpM := pur fun ds Q _ => ∃ ns : List Int, ds = [.lst (ns.map .int)] ∧ ns.length ≤ 63 ∧ Q (.bl true)
def M0 : Mu := fun _ => none
theorem law_ok {B : Bx} (H : Hp) (a : Addr) (ns : List Int) (hl : ns.length ≤ 63) (hS : SqL B.K H a (ns.map V.int)) : liftSp B [false] spLaw [.ref a] H (fun v _ => v = .bl true) fun _ _ _ => False := by
  refine ⟨⟨H, H, Ex.refl H⟩, fun _ => none, M0, [.lst (ns.map .int)], fun d _ => d = .bl true, fun _ _ => False, ?_, ⟨fun _ _ => rfl, fun _ => trivial⟩, .dat (.lst hS (RpAll.of_ints ns)) .nil, ⟨ns, rfl, hl, rfl⟩, fun d v W' m' M' q le k hv => ?_, fun _ _ _ _ z => z.elim⟩
  · funext b
    show cat H (fun _ => none) b = H b
    unfold cat; cases H b <;> rfl
  · subst q
    cases hv
    rfl
end Z

namespace Z
open PySem PySem.Spec PyProof.Rows L2
open Evl (Ex)

/-! ### lists that change -/
section
variable {B : Bx} {W0 W : Wd} {σ : L2.St} {ρ : List Ent} {M : Mu} {m : Hp}
theorem MOk.relay (h : MOk B W M m) {a : Addr} {o o' : HO} (ha : W.H a = some o) (hF : W.F a = none) : MOk B (W.lay a o' hF) M m := ⟨fun b hb => by
    by_cases z : b = a
    · subst z; exact h.dj b (by rw [ha]; exact fun y => by cases y)
    · refine h.dj b ?_
      have e : (W.lay a o' hF).H b = W.H b := upd_ne z
      rw [← e]; exact hb, fun b => h.ok b⟩
theorem Rel.own (R : Rel B W0 W σ ρ) {i : Nat} {ds : List D} (z : ga ρ i = .own ds) : ∃ a vs, σ[i]? = some (some (.ref a)) ∧ W.H a = some (.lst vs) ∧ W.F a = none ∧ RpAll B W.F vs ds ∧
    ∀ (hF : W.F a = none) vs' ds', RpAll B W.F vs' ds' → Rel B W0 (W.lay a (.lst vs') hF) σ (ρ.set i (.own ds')) := by
  obtain ⟨le, len, ad, h3, h4⟩ := R
  have q := h4 i
  rw [z] at q
  obtain ⟨vs, q1, q2, q3, q4, q5⟩ := q
  have hl : i < ρ.length := ga_lt (by rw [z]; exact fun y => by cases y)
  refine ⟨ad i, vs, q1, q2, q3, q5, fun hF vs' ds' hv => ⟨⟨le.f, fun a o h => ?_, le.n⟩, by rw [List.length_set]; exact len, ad, fun j k hjk hj hk => ?_, fun j => ?_⟩⟩
  · show upd W.H (ad i) _ a = some o
    rw [upd_ne (fun y => by subst y; rw [q4] at h; cases h)]; exact le.h a o h
  · rw [ga_set, if_pos hl] at hj hk
    have oj : (ga ρ j).ownd = true := by
      by_cases y : i = j
      · subst y; rw [z]; rfl
      · rw [if_neg y] at hj; exact hj
    have ok : (ga ρ k).ownd = true := by
      by_cases y : i = k
      · subst y; rw [z]; rfl
      · rw [if_neg y] at hk; exact hk
    exact h3 j k hjk oj ok
  · rw [ga_set]
    by_cases y : i = j
    · subst y
      rw [if_pos rfl, if_pos hl]
      exact ⟨vs', q1, upd_same, q3, q4, hv⟩
    · rw [if_neg y]
      have q := h4 j
      have ne : (ga ρ j).ownd = true → ad j ≠ ad i := fun oj => h3 j i (Ne.symm y) oj (by rw [z]; rfl)
      cases u : ga ρ j with
      | un => trivial
      | dat d => rw [u] at q; exact q
      | bor d => rw [u] at q; exact q
      | own es => rw [u] at q ne; obtain ⟨us, p1, p2, p3, p4, p5⟩ := q; exact ⟨us, p1, (upd_ne (ne rfl)).trans p2, p3, p4, p5⟩
      | dk t ks =>
        rw [u] at q ne
        obtain ⟨p1, p2, p3, p4⟩ := q
        refine ⟨p1, ?_, p3, p4⟩
        have e : (W.lay (ad i) (.lst vs') hF).H (ad j) = W.H (ad j) := upd_ne (ne rfl)
        rw [e]; exact p2
end
/-- what a list's method does: the store, what the list holds, the arguments; what is told, what it holds then -/
abbrev LM := Mu → List D → List D → (D → List D → Prop) → Prop
def RfL (B : Bx) (ms : List Bool) (r : V → List V → Hp → VK → Prop) (o : LM) : Prop := ∀ (W : Wd) (m : Hp) (M : Mu) (a : Addr) (vs : List V) (ds : List D) (us : List V) (as : List D) (Q : VK) (Qd : D → List D → Prop), MOk B W M m → cat W.H m a = some (.lst vs) → RpAll B W.F vs ds → ArgsOk B W ms us as → o M ds as Qd →
  (∀ d v ds' vs', Qd d ds' → Rp B W.F v d → RpAll B W.F vs' ds' → Q v (upd (cat W.H m) a (.lst vs'))) → r (.ref a) us (cat W.H m) Q
section
variable {X : Cx} {wx : WX} {e a b c : Expr} {es : List Expr} {T Ta Tb : DTE} {R : DTA} {pos : Pos}
/-- is a list at a -/
def isLst : Option Ob → Prop
  | some (.lst _) => True
  | _ => False
/-- ahead of the arguments -/
def lmPre (ρ : List Ent) (M : Mu) (i : Nat) : Prop := match ga ρ i with
  | .own _ => True
  | .dat (.ref a) => isLst (M a)
  | _ => False
/-- at the list: an own one, or one of the store -/
def lmAt (o : LM) (ρ : List Ent) (M : Mu) (i : Nat) (as : List D) (K : D → List Ent → Mu → Prop) : Prop := match ga ρ i with
  | .own ds => o M ds as fun d ds' => K d (ρ.set i (.own ds')) M
  | .dat (.ref a) => (match M a with
    | some (.lst ds) => o M ds as fun d ds' => K d ρ (updM M a (.lst ds'))
    | _ => False)
  | _ => False
/-- x.m(..): the name's list changes -/
def dLmut (o : LM) (i : Nat) (R : DTA) (k : D → DEnds → List Ent → Mu → Prop) : DTS := fun DD ρ M => lmPre ρ M i ∧ R ρ M (fun as M' => lmAt o ρ M' i as fun d => k d DD) fun C => DD.ex C ρ
def kNx : D → DEnds → List Ent → Mu → Prop := fun _ DD ρ M => DD.nx ρ M
def kSet (j : Nat) : D → DEnds → List Ent → Mu → Prop := fun d DD ρ M => DD.nx (ρ.set j (.dat d)) M
theorem lmPre_of {B : Bx} {W0 W : Wd} {m : Hp} {σ : L2.St} {ρ : List Ent} {M : Mu} {i : Nat} (R : Rel B W0 W σ ρ) (mk : MOk B W M m) (h : lmPre ρ M i) : ∃ a vs, σ[i]? = some (some (.ref a)) ∧ cat W.H m a = some (.lst vs) := by
  unfold lmPre at h
  split at h
  · rename_i ds z
    obtain ⟨a, vs, s1, s2, _⟩ := R.own z
    exact ⟨a, vs, s1, cat_some s2⟩
  · rename_i a z
    obtain ⟨v, s1, s2⟩ := R.dat z
    cases s2
    have ob := mk.ok a
    cases y : M a with
    | none => rw [y] at h; exact h.elim
    | some u =>
      rw [y] at h ob
      cases u with
      | lst ds => obtain ⟨vs, o1, o2⟩ := ob; exact ⟨a, vs, s1, (cat_none (mk.hn y)).trans o1⟩
      | _ => exact h.elim
  · exact h.elim
/-- the heart: at the list -/
theorem rf_lmut {B : Bx} {ms : List Bool} {r : V → List V → Hp → VK → Prop} {o : LM} (h : RfL B ms r o) {W0 W : Wd} {m : Hp} {σ : L2.St} {ρ : List Ent} {M : Mu} {i : Nat} {us : List V} {as : List D} {Q : VK} {K : D → List Ent → Mu → Prop} (R : Rel B W0 W σ ρ) (mk : MOk B W M m) (ha : ArgsOk B W ms us as)
    (q : lmAt o ρ M i as K)
    (k : ∀ d v W' m' ρ' M', K d ρ' M' → Rel B W0 W' σ ρ' → MOk B W' M' m' → Rp B W'.F v d → Q v (cat W'.H m')) : ∃ a vs, σ[i]? = some (some (.ref a)) ∧ cat W.H m a = some (.lst vs) ∧ r (.ref a) us (cat W.H m) Q := by
  unfold lmAt at q
  split at q
  · rename_i ds z
    obtain ⟨a, vs, s1, s2, s3, s4, s5⟩ := R.own z
    refine ⟨a, vs, s1, cat_some s2, h W m M a vs ds us as Q _ mk (cat_some s2) s4 ha q fun d v ds' vs' q' rv rvs => ?_⟩
    exact cat_q (P := Q v) (k d v (W.lay a (.lst vs') s3) m _ M q' (s5 s3 vs' ds' rvs) (mk.relay s2 s3) rv)
  · rename_i a z
    obtain ⟨v, s1, s2⟩ := R.dat z
    cases s2
    split at q
    · rename_i ds y
      have hn := mk.hn y
      have ob := mk.ok a
      rw [y] at ob
      obtain ⟨vs, o1, o2⟩ := ob
      have hc : cat W.H m a = some (.lst vs) := (cat_none hn).trans o1
      refine ⟨a, vs, s1, hc, h W m M a vs ds us as Q _ mk hc o2 ha q fun d v ds' vs' q' rv rvs => ?_⟩
      exact cat_qm (P := Q v) hn (k d v W (upd m a (.lst vs')) ρ _ q' R (mk.put hn ⟨vs', rfl, rvs⟩) rv)
    · exact q.elim
  · exact q.elim
theorem ty_list {K : PySem.W.Frag} {a : Addr} {vs : List V} {H : Hp} (h : H a = some (.lst vs)) : tyV K "list" (.ref a) H := .inl ⟨rfl, vs, .inl (.inl h)⟩
variable {i j : Nat} {ms : List Bool} {r : V → List V → Hp → VK → Prop} {o : LM} {ce : Expr} {k : D → DEnds → List Ent → Mu → Prop}
theorem rf_lmutE {B : Bx} {t : TA} (hr : RfL B ms r o) (ra : RfM B wx ms t R) {W0 W : Wd} {m : Hp} {σ : L2.St} {ρ : List Ent} {M : Mu} {Q : VK} {DD : DEnds} (Re : Rel B W0 W σ ρ) (mk : MOk B W M m) (h : dLmut o i R k DD ρ M)
    (h2 : ∀ d v W' m' ρ' M', k d DD ρ' M' → Rel B W0 W' σ ρ' → MOk B W' M' m' → Rp B W'.F v d → Q v (cat W'.H m')) (h3 : ExK B wx W σ fun C => DD.ex C ρ) : tBM B.K "list" r (tVar i) t σ (cat W.H m) Q := by
  obtain ⟨hp, h⟩ := h
  obtain ⟨a, vs, s1, s2⟩ := lmPre_of Re mk hp
  refine ⟨_, s1, ty_list s2, ra W0 W m σ ρ M _ _ _ Re mk h (fun ds us W' m' M' q le mk' hv => ?_) h3⟩
  obtain ⟨a', vs', s1', s2', s3⟩ := rf_lmut (B := B) (K := fun d => k d DD) (Q := Q) hr (Re.mono le) mk' hv q h2
  rw [s1] at s1'
  cases s1'
  exact s3
theorem rf_lmut0 {B : Bx} (hr : RfL B [] r o) {W0 W : Wd} {m : Hp} {σ : L2.St} {ρ : List Ent} {M : Mu} {Q : VK} {DD : DEnds} (Re : Rel B W0 W σ ρ) (mk : MOk B W M m) (h : dLmut o i dNil k DD ρ M)
    (h2 : ∀ d v W' m' ρ' M', k d DD ρ' M' → Rel B W0 W' σ ρ' → MOk B W' M' m' → Rp B W'.F v d → Q v (cat W'.H m')) : tBM0 B.K "list" r (tVar i) σ (cat W.H m) Q := by
  obtain ⟨hp, h⟩ := h
  obtain ⟨a, vs, s1, s2, s3⟩ := rf_lmut (B := B) (K := fun d => k d DD) (Q := Q) hr Re mk .nil h h2
  exact ⟨_, s1, ty_list s2, s3⟩
/-- x.m(..) as a statement -/
theorem ds_lmut (pb : ∀ {t}, PA X (e :: es) t → PE X ce (tBM X.K "list" r (tVar i) t)) (hr : RfL (bx X) ms r o) (ha : DM X wx ms (e :: es) R) (hs : swapsWith ce none pos.line X.env = pure false := by rfl) : DS X wx (.Expr ce pos) (dLmut o i R kNx) := by
  obtain ⟨t, p, ra⟩ := ha
  exact ⟨_, ps_expr (pb p) hs, fun W0 W m σ ρ M D DD Re mk h kk => rf_lmutE hr ra Re mk h (fun d v W' m' ρ' M' q R' mk' rv => kk.nx W' m' σ ρ' M' R' mk' q) fun C W' m' M' q le mk' => kk.ex C W' m' σ ρ M' (Re.mono le) mk' q⟩
theorem ds_lmut0 (pb : PE X ce (tBM0 X.K "list" r (tVar i))) (hr : RfL (bx X) [] r o) (hs : swapsWith ce none pos.line X.env = pure false := by rfl) : DS X wx (.Expr ce pos) (dLmut o i dNil kNx) :=
  ⟨_, ps_expr pb hs, fun W0 W m σ ρ M D DD Re mk h kk => rf_lmut0 hr Re mk h fun d v W' m' ρ' M' q R' mk' rv => kk.nx W' m' σ ρ' M' R' mk' q⟩
/-- y = x.m(..) -/
theorem ds_lset {y : Str} {pos' : Pos} (hN : X.N.Nodup) (pb : ∀ {t}, PA X (e :: es) t → PE X ce (tBM X.K "list" r (tVar i) t)) (hr : RfL (bx X) ms r o) (ha : DM X wx ms (e :: es) R) (hi : X.N[j]? = some y := by rfl) (hx : Loc X.env.scope y := by first | exact Or.inl rfl | exact Or.inr rfl)
    (hs : swapsWith ce (some (.Name y pos')) pos.line X.env = pure false := by rfl) (hf : X.fn y = true ∨ X.env.scope.names.lookup y = some .local := by first | exact .inl rfl | exact .inr rfl) : DS X wx (.Assign [.Name y pos'] ce pos) (dLmut o i R (kSet j)) := by
  obtain ⟨t, p, ra⟩ := ha
  exact ⟨_, ps_set hN hi hx (pb p) hs hf, fun W0 W m σ ρ M D DD Re mk h kk => rf_lmutE hr ra Re mk h (fun d v W' m' ρ' M' q R' mk' rv => kk.nx W' m' _ _ M' (R'.set rv) mk' q) fun C W' m' M' q le mk' => kk.ex C W' m' σ ρ M' (Re.mono le) mk' q⟩
theorem ds_lset0 {y : Str} {pos' : Pos} (hN : X.N.Nodup) (pb : PE X ce (tBM0 X.K "list" r (tVar i))) (hr : RfL (bx X) [] r o) (hi : X.N[j]? = some y := by rfl) (hx : Loc X.env.scope y := by first | exact Or.inl rfl | exact Or.inr rfl)
    (hs : swapsWith ce (some (.Name y pos')) pos.line X.env = pure false := by rfl) (hf : X.fn y = true ∨ X.env.scope.names.lookup y = some .local := by first | exact .inl rfl | exact .inr rfl) : DS X wx (.Assign [.Name y pos'] ce pos) (dLmut o i dNil (kSet j)) :=
  ⟨_, ps_set hN hi hx pb hs hf, fun W0 W m σ ρ M D DD Re mk h kk => rf_lmut0 hr Re mk h fun d v W' m' ρ' M' q R' mk' rv => kk.nx W' m' _ _ M' (R'.set rv) mk' q⟩
end
/-! ### the methods -/
/-- xs.extend(ys), xs += ys: what ys's object has beside its items does not matter -/
theorem extendW (l b : Addr) (items items2 : Array Value) (n n2 : Nat) (dd2 : Option Addr) (sl2 : Array (Option Value)) (h0 : ¬(!items.isEmpty && Builtin.List.listTooLong (items.size + items2.size)) = true) (h1 : items.size ≤ sizeLine) (h2 : items.size + items2.size ≤ sizeLine + 1) :
    Meets (Builtin.«list.extend» ⟨[.ref l, .ref b], []⟩) (fun _ R s => s.heap.get? l = some { cls := .type "list", data := .seq items n } ∧ s.heap.get? b = some { cls := .type "list", dict := dd2, data := .seq items2 n2, slots := sl2 } ∧ R (.ok (.ret Value.none)) { s with heap := s.heap.update l (Obj.mapSeq fun x => x ++ items2), toks := s.toks }) :=
  .of_wp fun prog w A R s h => by
    obtain ⟨hp, g, d, tk, os⟩ := s
    obtain ⟨hl, hb, h⟩ := h
    have f1 := AutoSeq1.idx_int
    have hz' : (items ++ items2).size ≤ sizeLine + 1 := by rw [Array.size_append]; exact h2
    wp_walk using (wpAny_updateSeq hl rfl (hz := h1) (_hz' := hz')), wpAny_loadPart' hl, wpAny_loadPart' hb
    exact ⟨_, rfl, h⟩
theorem iaddW (l b : Addr) (items items2 : Array Value) (n n2 : Nat) (dd2 : Option Addr) (sl2 : Array (Option Value)) (h0 : ¬(!items.isEmpty && Builtin.List.listTooLong (items.size + items2.size)) = true) (h1 : items.size ≤ sizeLine) (h2 : items.size + items2.size ≤ sizeLine + 1) :
    Meets (Builtin.«list.__iadd__» ⟨[.ref l, .ref b], []⟩) (fun _ R s => s.heap.get? l = some { cls := .type "list", data := .seq items n } ∧ s.heap.get? b = some { cls := .type "list", dict := dd2, data := .seq items2 n2, slots := sl2 } ∧ R (.ok (.ret (.ref l))) { s with heap := s.heap.update l (Obj.mapSeq fun x => x ++ items2), toks := s.toks }) :=
  .of_wp fun prog w A R s h => by
    obtain ⟨hp, g, d, tk, os⟩ := s
    obtain ⟨hl, hb, h⟩ := h
    have f1 := AutoSeq1.idx_int
    have hz' : (items ++ items2).size ≤ sizeLine + 1 := by rw [Array.size_append]; exact h2
    wp_walk using (wpAny_updateSeq hl rfl (hz := h1) (_hz' := hz')), wpAny_loadPart' hl, wpAny_loadPart' hb
    exact ⟨_, rfl, h⟩
theorem ip_fill : fillsInplaceSlot (.type "list") "add" (Operator.Add == .Add) = pure false := by kernel_rfl
theorem ip_seq : seqSlot? (.type "list") (dunderI "add") = pure (some (.builtin "list.__iadd__")) := by kernel_rfl
theorem inplace_list {prog : Program} {w : World} {A : Around} {E : Value → Shared → Prop} {s : Shared} {a b : Value} {Q : Value → Shared → Prop} (ha : s.TypeIs a "list") (hb : s.TypeIs b "list") (hc : wpAny (model prog w) A (call (.builtin "list.__iadd__") [a, b]) Q E s) : wpAny (model prog w) A (inplaceOp .Add a b) Q E s := by
  unfold inplaceOp
  refine wpAny_holding ?_
  refine wpAny_bind (wpAny_typeOf ha (wpAny_bind (wpAny_of_eq ip_fill ?_)))
  show wpAny _ A (if false = true then _ else _) Q E s
  rw [if_neg Bool.false_ne_true]
  refine wpAny_bind (wpAny_binaryOp1_none (nm := "add") ha hb noFill_list_add ?_)
  refine wpAny_bind (wpAny_of_eq ip_seq ?_)
  exact wpAny_bind (wpAny_rule hc)
/-- xs += ys -/
def rIaddS (K : PySem.W.Frag) : V → V → Hp → VK → Prop := fun x y H Q => ∃ l b xs zs, x = .ref l ∧ y = .ref b ∧ H l = some (.lst xs) ∧ SqL K H b zs ∧ xs.length + zs.length ≤ sizeLine ∧ Q (.ref l) (upd H l (.lst (xs ++ zs)))
theorem ip_cat {X : Cx} : PIp X .Add (rIaddS X.K) := by
  intro pins s σ H x y v u Q I rx ry h
  obtain ⟨l, b, xs, zs, rfl, rfl, hH, hB, hz, q⟩ := h
  cases rx
  cases ry
  obtain ⟨z, its, n, r, hl, e⟩ := I.lstM hH
  obtain ⟨its2, r2, pl2, z2⟩ := I.list hB
  have hl2 := r2.length
  obtain ⟨⟨cls2, dd2, data2, sl2⟩, e2, hc2, n2, hd2⟩ := id pl2.isList
  simp only at hc2 hd2
  subst hc2 hd2
  have hsz : its.toArray.size + its2.toArray.size ≤ sizeLine := by simp; omega
  have hlong : ¬ (!its.toArray.isEmpty && Builtin.List.listTooLong (its.toArray.size + its2.toArray.size)) = true := by rw [notLongL hsz, Bool.and_false]; exact Bool.false_ne_true
  refine inplace_list ⟨_, e, rfl⟩ ⟨_, e2, rfl⟩ (call_meets PySem.F.slot_list_iadd ⟨_, e, rfl⟩ PySem.F.entry_list_iadd (PySem.F.args_list_iadd_2 _ _) (iaddW l b its.toArray its2.toArray n n2 dd2 sl2 hlong (by simp; omega) (by omega)) ⟨e, e2, ?_⟩)
  refine ⟨.ref l, _, I.lset (its' := its ++ its2) hH e (by simp) (r.append r2) ?_, rfl, q⟩
  rw [List.length_append]
  omega
/-- xs.extend(ys), ys any list -/
def rExtendS (K : PySem.W.Frag) : V → List V → Hp → VK → Prop := fun x vs H Q => ∃ l b xs zs, x = .ref l ∧ vs = [.ref b] ∧ H l = some (.lst xs) ∧ SqL K H b zs ∧ xs.length + zs.length ≤ sizeLine ∧ Q .non (upd H l (.lst (xs ++ zs)))
theorem mt_extendS {X : Cx} : MtM X "list.extend" (rExtendS X.K) := by
  intro pins s σ H x vs v us Q I rx rv h
  obtain ⟨l, b, xs, zs, rfl, rfl, hH, hB, hz, q⟩ := h
  cases rx
  obtain ⟨u, rfl, ru⟩ := rv.one
  cases ru
  obtain ⟨z, its, n, r, hl, e⟩ := I.lstM hH
  obtain ⟨its2, r2, pl2, z2⟩ := I.list hB
  have hl2 := r2.length
  obtain ⟨⟨cls2, dd2, data2, sl2⟩, e2, hc2, n2, hd2⟩ := id pl2.isList
  simp only at hc2 hd2
  subst hc2 hd2
  have hsz : its.toArray.size + its2.toArray.size ≤ sizeLine := by simp; omega
  have hlong : ¬ (!its.toArray.isEmpty && Builtin.List.listTooLong (its.toArray.size + its2.toArray.size)) = true := by rw [notLongL hsz, Bool.and_false]; exact Bool.false_ne_true
  refine call_meets PySem.F.slot_list_extend ⟨_, e, rfl⟩ PySem.F.entry_list_extend (PySem.F.args_list_extend_2 _ _) (extendW l b its.toArray its2.toArray n n2 dd2 sl2 hlong (by simp; omega) (by omega)) ⟨e, e2, ?_⟩
  refine ⟨.non, _, I.lset (its' := its ++ its2) hH e (by simp) (r.append r2) ?_, rfl, q⟩
  rw [List.length_append]
  omega
section
variable {B : Bx}
def lmAppend : LM := fun _ ds as Q => match as with | [d] => ds.length < sizeLine ∧ Q .non (ds ++ [d]) | _ => False
theorem rf_append : RfL B [false] rAppend lmAppend := by
  intro W m M a vs ds us as Q Qd mk ha rv hu h k
  have hu := hu.all rfl
  unfold lmAppend at h
  split at h
  · rename_i d
    cases hu with
    | cons r1 t1 =>
      cases t1
      exact ⟨a, vs, _, rfl, rfl, ha, by rw [rv.length]; exact h.1, k _ _ _ _ h.2 .non (rv.append (.cons r1 .nil))⟩
  · exact h.elim
def lmExtend : LM := fun M ds as Q => match as with
  | [x] => (match drf M x with
    | .lst es => ds.length + es.length ≤ sizeLine ∧ Q .non (ds ++ es)
    | _ => False)
  | _ => False
theorem rf_extend : RfL B [true] (rExtendS B.K) lmExtend := by
  intro W m M a vs ds us as Q Qd mk ha rv hu h k
  have hu := hu.reads mk
  unfold lmExtend at h
  split at h
  · rename_i x
    cases hu with
    | cons r1 t1 =>
      cases t1
      split at h
      · rename_i es z
        rw [z] at r1
        obtain ⟨b, ws, rfl, s1, s2⟩ := r1
        exact ⟨a, b, vs, ws, rfl, rfl, ha, s1, by rw [rv.length, s2.length]; exact h.1, k _ _ _ _ h.2 .non (rv.append s2)⟩
      · exact h.elim
  · exact h.elim
def lmPop : LM := fun _ ds as Q => match as with | [] => ∃ d, ds.getLast? = some d ∧ Q d ds.dropLast | _ => False
theorem rf_pop : RfL B [] rPop lmPop := by
  intro W m M a vs ds us as Q Qd mk ha rv hu h k
  cases hu
  obtain ⟨d, e, h⟩ := h
  rw [List.getLast?_eq_getElem?] at e
  obtain ⟨v, e2, r⟩ := rv.get e
  exact ⟨a, vs, v, rfl, rfl, ha, by rw [rv.length]; exact e2, k _ _ _ _ h r rv.dropLast⟩
def lmPopAt : LM := fun _ ds as Q => match as with | [.int i] => 0 ≤ i ∧ i < 2 ^ 63 ∧ ∃ d, ds[i.toNat]? = some d ∧ Q d (ds.eraseIdx i.toNat) | _ => False
theorem rf_popAt : RfL B [true] rPopAt lmPopAt := by
  intro W m M a vs ds us as Q Qd mk ha rv hu h k
  unfold lmPopAt at h
  split at h
  · rename_i i
    obtain ⟨h0, h63, d, e, h⟩ := h
    have := args_int (js := [i]) hu
    subst this
    obtain ⟨v, e2, r⟩ := rv.get e
    have hl := (List.getElem?_eq_some_iff.mp e2).1
    refine ⟨a, vs, i, i.toNat, v, rfl, rfl, ha, by omega, h63, seqIndex_of h0 (by omega), e2, k _ _ _ _ h r (rv.eraseIdx _)⟩
  · exact h.elim
def lmClear : LM := fun _ ds as Q => match as with | [] => Q .non [] | _ => False
theorem rf_clear : RfL B [] rClear lmClear := by
  intro W m M a vs ds us as Q Qd mk ha rv hu h k
  cases hu
  exact ⟨a, vs, rfl, rfl, ha, k _ _ _ _ h .non .nil⟩
end
end Z

namespace Z
open PySem PySem.Spec PyProof.Rows L2
open Evl (Ex)

/-! ### comprehensions -/
section
variable {ι : Type} {Xf : ι → Cx} {B : Bx} {wx : WX}
theorem DE.unif {e : Expr} {T : DTE} (hb : ∀ i, bx (Xf i) = B) (h : ∀ i, DE (Xf i) wx e T) : ∃ t, (∀ i, PE (Xf i) e t) ∧ RfE B wx t T := by
  refine ⟨fun σ H Q => ∀ i pins s, Inv (Xf i) pins σ H s → wpAny (model (Xf i).prog (Xf i).w) (Xf i).A (eval e (Xf i).env) (EP (Xf i) pins σ Q) (Xf i).xe s, fun i => ⟨fun pins s σ H Q I h => h i pins s I⟩, fun W0 W m σ ρ M Q Qd Ed R k h1 h2 h3 i pins s I => ?_⟩
  obtain ⟨t, p, r⟩ := h i
  rw [hb i] at r
  exact p.run pins s σ _ Q I (r W0 W m σ ρ M Q Qd Ed R k h1 h2 h3)
/-- the tests of a comprehension -/
def DTs (X : Cx) (wx : WX) (cs : List Expr) (T : DTT) : Prop := ∃ t, PTs X cs t ∧ RfT (bx X) wx t T
def dYes : DTT := fun _ M Q _ => Q true M
theorem dts_nil {X : Cx} : DTs X wx [] dYes := ⟨_, pts_nil, fun W0 W m σ ρ M Q Qd Ed R k h1 h2 h3 => h2 true W m M h1 (Wd.le.refl W) k⟩
theorem dts_one {X : Cx} {c : Expr} {T : DTT} (h : DT X wx c T) : DTs X wx [c] T := by
  obtain ⟨t, p, r⟩ := h
  exact ⟨t, pts_one p, r⟩
theorem DTs.unif {cs : List Expr} {T : DTT} (hb : ∀ i, bx (Xf i) = B) (h : ∀ i, DTs (Xf i) wx cs T) : ∃ t, (∀ i, PTs (Xf i) cs t) ∧ RfT B wx t T := by
  refine ⟨fun σ H Q => ∀ i t, PTs (Xf i) cs t → RfT B wx t T → t σ H Q, fun i => ?_, fun W0 W m σ ρ M Q Qd Ed R k h1 h2 h3 i t _ r => r W0 W m σ ρ M Q Qd Ed R k h1 h2 h3⟩
  obtain ⟨t, p, r⟩ := h i
  rw [hb i] at r
  exact ⟨fun pins s σ H Q I h => p.run pins s σ H Q I (h i t p r)⟩
/-- a target that sets the slots vs alone -/
def RfGk (B : Bx) (g : TG) (G : DTG) (ws : List Nat) : Prop := ∀ (W0 W : Wd) (m : Hp) (σ : L2.St) (ρ : List Ent) (v : V) (d : D) (Q : L2.St → Hp → Prop) (Qd : List Ent → Prop), Rel B W0 W σ ρ → Rp B W.F v d → G d ρ Qd → (∀ σ' ρ', Rel B W0 W σ' ρ' → wipe σ' ws = wipe σ ws → Qd ρ' → Q σ' (cat W.H m)) → g v σ (cat W.H m) Q
def DGk (X : Cx) (tg : Expr) (G : DTG) (ws : List Nat) : Prop := ∃ g, PG X tg g ∧ RfGk (bx X) g G ws
def RfGsk (B : Bx) (g : TGs) (G : DTGs) (ws : List Nat) : Prop := ∀ (W0 W : Wd) (m : Hp) (σ : L2.St) (ρ : List Ent) (v : List V) (d : List D) (Q : L2.St → Hp → Prop) (Qd : List Ent → Prop), Rel B W0 W σ ρ → RpAll B W.F v d → G d ρ Qd → (∀ σ' ρ', Rel B W0 W σ' ρ' → wipe σ' ws = wipe σ ws → Qd ρ' → Q σ' (cat W.H m)) → g v σ (cat W.H m) Q
def DGsk (X : Cx) (tg : List Expr) (G : DTGs) (ws : List Nat) : Prop := ∃ g, PGs X tg g ∧ RfGsk (bx X) g G ws
theorem wipe_get {σ : L2.St} {j : Nat} : ∀ {ws : List Nat}, (wipe σ ws)[j]? = if j ∈ ws then (if j < σ.length then some none else none) else σ[j]?
  | [] => by simp [wipe]
  | w :: ws => by
    show ((wipe σ ws).set w none)[j]? = _
    rw [List.getElem?_set, wipe_get (ws := ws), wipe_length]
    by_cases h : w = j
    · subst h; simp
    · rw [if_neg h]
      have : (j ∈ w :: ws) ↔ j ∈ ws := by simp; exact fun z => absurd z.symm h
      simp only [this]
theorem wipe_set {σ : L2.St} {i : Nat} {v : Option V} {ws : List Nat} (h : i ∈ ws) : wipe (σ.set i v) ws = wipe σ ws := by
  refine List.ext_getElem? fun j => ?_
  rw [wipe_get, wipe_get, List.length_set]
  by_cases z : j ∈ ws
  · rw [if_pos z, if_pos z]
  · rw [if_neg z, if_neg z, List.getElem?_set_ne (fun y => z (by rw [← y]; exact h))]
theorem wipe_twice {σ : L2.St} {ws : List Nat} : wipe (wipe σ ws) ws = wipe σ ws := by
  refine List.ext_getElem? fun j => ?_
  rw [wipe_get, wipe_get, wipe_length]
  split <;> rfl
theorem dgk_name {X : Cx} {pos : Pos} {i : Nat} {x : Str} {ws : List Nat} (hN : X.N.Nodup) (hw : i ∈ ws := by decide) (hi : X.N[i]? = some x := by rfl) (hx : Loc X.env.scope x := by first | exact Or.inl rfl | exact Or.inr rfl) (hf : X.fn x = true ∨ X.env.scope.names.lookup x = some .local := by first | exact .inl rfl | exact .inr rfl) : DGk X (.Name x pos) (dgName i) ws :=
  ⟨_, pg_name hN hi hx hf, fun W0 W m σ ρ v d Q Qd R r h k => k _ _ (R.set r) (wipe_set hw) h⟩
theorem dgsk_nil {X : Cx} {ws : List Nat} : DGsk X [] dgNil ws := ⟨_, pgs_nil, fun W0 W m σ ρ v d Q Qd R r h k => by
  obtain ⟨rfl, h⟩ := h
  cases r
  exact ⟨rfl, k _ _ R rfl h⟩⟩
theorem dgsk_cons {X : Cx} {e : Expr} {es : List Expr} {G : DTG} {Gs : DTGs} {ws : List Nat} (h1 : DGk X e G ws) (h2 : DGsk X es Gs ws) (hs : (assignEach (e :: es) X.env).map (·.2) = assign e X.env :: (assignEach es X.env).map (·.2) := by rfl) : DGsk X (e :: es) (dgCons G Gs) ws := by
  obtain ⟨g, p, r⟩ := h1
  obtain ⟨g', p', r'⟩ := h2
  refine ⟨_, pgs_cons p p' hs, fun W0 W m σ ρ v d Q Qd R rr h k => ?_⟩
  cases rr with
  | nil => exact h.elim
  | cons q t => exact ⟨_, _, rfl, r W0 W m σ ρ _ _ _ _ R q h fun σ' ρ' R' w' h' => r' W0 W m σ' ρ' _ _ _ _ R' t h' fun σ2 ρ2 R2 w2 h2 => k σ2 ρ2 R2 (w2.trans w') h2⟩
theorem dgk_tup {X : Cx} {es : List Expr} {Gs : DTGs} {ws : List Nat} {pos : Pos} {k n : Nat} (hc : X.calm = true) (h : DGsk X es Gs ws) (hn : (assignEach es X.env).length = n := by rfl) (hst : (assignEach es X.env).findIdx? (·.1) = none := by rfl) : DGk X (.Tuple es k pos) (dgTup n Gs) ws := by
  obtain ⟨g, p, r⟩ := h
  refine ⟨_, pg_tup hc p hn hst, fun W0 W m σ ρ v d Q Qd R rr h k => ?_⟩
  cases d with
  | tup ds =>
    cases rr with
    | tup h1 h2 => exact ⟨_, _, rfl, Evl.ex_t (W.ok.trans (cat_ex W.H m)) h1, by rw [h2.length]; exact h.1, r W0 W m σ ρ _ _ _ _ R h2 h.2 k⟩
  | _ => exact h.elim
theorem DGk.unif {tg : Expr} {G : DTG} {ws : List Nat} (hb : ∀ i, bx (Xf i) = B) (h : ∀ i, DGk (Xf i) tg G ws) : ∃ g, (∀ i, PG (Xf i) tg g) ∧ RfGk B g G ws := by
  refine ⟨fun v σ H Q => ∀ i g, PG (Xf i) tg g → RfGk B g G ws → g v σ H Q, fun i => ?_, fun W0 W m σ ρ v d Q Qd R r h1 h2 i g _ rr => rr W0 W m σ ρ v d Q Qd R r h1 h2⟩
  obtain ⟨g, p, r⟩ := h i
  rw [hb i] at r
  exact ⟨fun pins s σ H v u Q I rv h => p.run pins s σ H v u Q I rv (h i g p r)⟩
end
/-- the slots ws forgotten -/
def wipeE (ρ : List Ent) : List Nat → List Ent
  | [] => ρ
  | v :: vs => (wipeE ρ vs).set v .un
theorem Rel.wipe {B : Bx} {W0 W : Wd} {σ : L2.St} {ρ : List Ent} (R : Rel B W0 W σ ρ) : ∀ ws : List Nat, Rel B W0 W (L2.wipe σ ws) (wipeE ρ ws)
  | [] => R
  | _ :: ws => (R.wipe ws).unset
/-- [elt for target in xs if test]: a word of the turn and the list so far -/
def dLcI (G : DTG) (U : DTT) (T : DTE) (ws : List Nat) (xs : List D) (ρ : List Ent) (M : Mu) (Q : List D → Mu → Prop) : Prop := ∃ I : Nat → List D → Mu → Prop, I 0 [] M ∧
  (∀ i x, xs[i]? = some x → ∀ acc M', I i acc M' → acc.length < sizeLine ∧ G x (wipeE ρ ws) fun ρ2 => U ρ2 M' (fun b M2 => if b = true then T ρ2 M2 (fun d M3 => I (i + 1) (acc ++ [d]) M3) (fun _ _ => False) else I (i + 1) acc M2) (fun _ _ => False)) ∧ ∀ acc M', I xs.length acc M' → Q acc M'
def dLc (Ti : DTA) (G : DTG) (U : DTT) (T : DTE) (ws : List Nat) : DTA := fun ρ M Q E => Ti ρ M (fun xs M' => dLcI G U T ws xs ρ M' Q) E
section
variable {X : Cx} {wx : WX} {elt tg iter : Expr} {ifs : List Expr} {scope : Scope} {own : List (Str × Nat)} {pos : Pos} {Ti : DTA} {G : DTG} {U : DTT} {T : DTE}
/-- the frames of a comprehension -/
abbrev blkF (X : Cx) (scope : Scope) (z : Shared × Hp × Addr × List (Str × Addr) × List Addr) : Cx := X.blk z.1 z.2.1 scope (compEnvC scope z.2.2.2.1 z.2.2.1 X.env) z.2.2.2.2
abbrev wx0 : WX := fun _ _ _ _ => False
theorem le_lay2 {W1 W : Wd} {p : Addr} {o : HO} (le : W1.le W) (hn : W1.H p = none) (hF : W.F p = none) : W1.le (W.lay p o hF) := ⟨le.f, fun a u h => by
    show upd W.H p o a = some u
    rw [upd_ne (fun y => by subst y; rw [hn] at h; cases h)]; exact le.h a u h, le.n⟩
theorem rf_lc {B : Bx} {wi : TI} {g : TG} {tt : TT} {te : TE} {ws : List Nat} (ri : RfI B wx wi Ti) (rg : RfGk B g G ws) (rt : RfT B wx0 tt U) (re : RfE B wx0 te T) : RfN B wx (tLc wi g tt te ws) (dLc Ti G U T ws) := by
  refine fun W0 W m σ ρ M Q Qd Ed R mk h1 h2 h3 => ri W0 W m σ ρ M _ _ _ R mk h1 (fun xs J W1 m1 M1 q le mk1 ok => fun Dl hD => ?_) h3
  obtain ⟨I, i0, istep, iend⟩ := q
  have hD1 := (cat_new hD).1
  have R1 := R.mono le
  refine ⟨fun i n H => ∃ W m M acc us, cat W.H m = H ∧ W1.le W ∧ MOk B W M m ∧ W.H Dl = some (.lst us) ∧ W.F Dl = none ∧ RpAll B W.F us acc ∧ I i acc M ∧ i + n = xs.length, ⟨xs.length, W1.lay Dl (.lst []) (W1.fnone hD1), m1, M1, [], [], cat_upd.symm, W1.le_lay hD1, mk1.lay hD, upd_same, W1.fnone hD1, .nil, i0, Nat.zero_add _⟩, ?_⟩
  rintro i n H ⟨W, m, M, acc, us, rfl, le1, mk, s1, s2, s3, s4, s5⟩
  obtain ⟨go, stop⟩ := ok i W m M (R1.le.trans le1) le1.f mk
  cases z : xs[i]? with
  | none =>
    have hl : xs.length ≤ i := List.getElem?_eq_none_iff.mp z
    have e : i = xs.length := by omega
    subst e
    exact .inl ⟨stop hl, h2 acc Dl us W m M (iend acc M s4) (le.trans le1) mk (ex_none le.h hD1) s1 s2 s3⟩
  | some d =>
    obtain ⟨g1, g2⟩ := go d z
    have hl := (List.getElem?_eq_some_iff.mp z).1
    refine .inr ⟨g1, fun H' => ∃ W m M acc us, cat W.H m = H' ∧ W1.le W ∧ MOk B W M m ∧ W.H Dl = some (.lst us) ∧ W.F Dl = none ∧ RpAll B W.F us acc ∧ I (i + 1) acc M, fun H' ⟨W, m, M, acc, us, e1, e2, e3, e4, e5, e6, e7⟩ => ⟨n - 1, by omega, W, m, M, acc, us, e1, e2, e3, e4, e5, e6, e7, by omega⟩, fun x H' y => ?_⟩
    obtain ⟨W', le', e', mk', rv⟩ := g2 x H' y
    subst e'
    obtain ⟨hz, body⟩ := istep i d z acc M s4
    have Rw : Rel B W0 W' (wipe σ ws) (wipeE ρ ws) := ((R1.mono le1).mono le').wipe ws
    refine rg W0 W' m _ _ x d _ _ Rw rv body fun σ2 ρ2 R2 w2 h' => ⟨w2.trans (by rw [wipe_twice]), ?_⟩
    refine rt W0 W' m σ2 ρ2 M _ _ _ R2 mk' h' (fun b W3 m3 M3 q3 le3 mk3 => ?_) fun _ _ _ _ z => z.elim
    have t1 := le3.h _ _ (le'.h _ _ s1)
    have t2 := le3.n _ (by rw [le'.h _ _ s1]; exact fun y => by cases y) (le'.n _ (by rw [s1]; exact fun y => by cases y) s2)
    cases b with
    | false => exact ⟨W3, m3, M3, acc, us, rfl, (le1.trans le').trans le3, mk3, t1, t2, (s3.mono le'.f).mono le3.f, q3⟩
    | true =>
      refine re W0 W3 m3 σ2 ρ2 M3 _ _ _ (R2.mono le3) mk3 q3 (fun d4 v4 W4 m4 M4 q4 le4 mk4 r4 => ?_) fun _ _ _ _ z => z.elim
      have u1 := le4.h _ _ t1
      have u2 := le4.n _ (by rw [t1]; exact fun y => by cases y) t2
      have u3 := ((s3.mono le'.f).mono le3.f).mono le4.f
      refine ⟨us, cat_some u1, by rw [u3.length]; exact hz, ?_⟩
      exact ⟨W4.lay Dl (.lst (us ++ [v4])) u2, m4, M4, acc ++ [d4], us ++ [v4], cat_upd.symm, le_lay2 (((le1.trans le').trans le3).trans le4) hD1 u2, mk4.relay u1 u2, upd_same, u2, u3.append (.cons r4 .nil), q4⟩
theorem dn_lc (hN : X.N.Nodup) (hi : DI X wx tg iter Ti) (ok : BlkOk X.N X.env.scope scope own) (hg : ∀ z, DGk (blkF X scope z) tg G (own.map (·.2))) (ht : ∀ z, DTs (blkF X scope z) wx0 ifs U) (he : ∀ z, DE (blkF X scope z) wx0 elt T) (hc : X.calm = true := by rfl) (hs : ∀ x, foldedSetIterable iter X.env x = pure x := by intro _; rfl) :
    DN X wx (.ListComp elt [⟨tg, iter, ifs, 0⟩] scope pos) (dLc Ti G U T (own.map (·.2))) := by
  obtain ⟨wi, p, ri⟩ := hi
  obtain ⟨g, pg, rg⟩ := DGk.unif (Xf := blkF X scope) (B := bx X) (fun _ => rfl) hg
  obtain ⟨tt, pt, rt⟩ := DTs.unif (Xf := blkF X scope) (B := bx X) (fun _ => rfl) ht
  obtain ⟨te, pe, re⟩ := DE.unif (Xf := blkF X scope) (B := bx X) (fun _ => rfl) he
  exact ⟨_, pe_lc hc hN p ok (fun s H C cl fp => pg (s, H, C, cl, fp)) (fun s H C cl fp => pt (s, H, C, cl, fp)) (fun s H C cl fp => pe (s, H, C, cl, fp)) hs, rf_lc ri rg rt re⟩
/-- y = [..] on one line -/
theorem ps_lc {j : Nat} {y : Str} {py spos : Pos} (hN : X.N.Nodup) (hi : DI X wx tg iter Ti) (ok : BlkOk X.N X.env.scope scope own) (hg : ∀ z, DGk (blkF X scope z) tg G (own.map (·.2))) (ht : ∀ z, DTs (blkF X scope z) wx0 ifs U) (he : ∀ z, DE (blkF X scope z) wx0 elt T)
    (hsw : swapsWith (.ListComp elt [⟨tg, iter, ifs, 0⟩] scope pos) (some (.Name y py)) spos.line X.env = pure true) (hy : X.N[j]? = some y) (hyl : X.env.scope.names.lookup y = some .local) (hc : X.calm = true) (hs : ∀ x, foldedSetIterable iter X.env x = pure x) :
    ∃ t, PS X (.Assign [.Name y py] (.ListComp elt [⟨tg, iter, ifs, 0⟩] scope pos) spos) (tAsg t (gName j)) ∧ RfN (bx X) wx t (dLc Ti G U T (own.map (·.2))) := by
  obtain ⟨wi, p, ri⟩ := hi
  obtain ⟨g, pg, rg⟩ := DGk.unif (Xf := blkF X scope) (B := bx X) (fun _ => rfl) hg
  obtain ⟨tt, pt, rt⟩ := DTs.unif (Xf := blkF X scope) (B := bx X) (fun _ => rfl) ht
  obtain ⟨te, pe, re⟩ := DE.unif (Xf := blkF X scope) (B := bx X) (fun _ => rfl) he
  exact ⟨_, ps_setLc hc hN hy hyl hsw p ok (fun s H C cl fp => pg (s, H, C, cl, fp)) (fun s H C cl fp => pt (s, H, C, cl, fp)) (fun s H C cl fp => pe (s, H, C, cl, fp)) hs, rf_lc ri rg rt re⟩
theorem ds_ownLc {j : Nat} {y : Str} {py spos : Pos} (hN : X.N.Nodup) (hi : DI X wx tg iter Ti) (ok : BlkOk X.N X.env.scope scope own) (hg : ∀ z, DGk (blkF X scope z) tg G (own.map (·.2))) (ht : ∀ z, DTs (blkF X scope z) wx0 ifs U) (he : ∀ z, DE (blkF X scope z) wx0 elt T)
    (hsw : swapsWith (.ListComp elt [⟨tg, iter, ifs, 0⟩] scope pos) (some (.Name y py)) spos.line X.env = pure true := by exact sw_true rfl rfl rfl (by decide +kernel)) (hy : X.N[j]? = some y := by rfl) (hyl : X.env.scope.names.lookup y = some .local := by rfl) (hc : X.calm = true := by rfl) (hs : ∀ x, foldedSetIterable iter X.env x = pure x := by intro _; rfl) :
    DS X wx (.Assign [.Name y py] (.ListComp elt [⟨tg, iter, ifs, 0⟩] scope pos) spos) (dOwn j (dLc Ti G U T (own.map (·.2)))) := by
  obtain ⟨t, p, r⟩ := ps_lc hN hi ok hg ht he hsw hy hyl hc hs
  refine ⟨_, p, fun W0 W m σ ρ M D DD R mk h k => r W0 W m σ ρ M _ _ _ R mk h (fun ds p vs W' m' M' q le mk' hn hp hf hv => ?_) fun C W' m' M' q le mk' => k.ex C W' m' σ ρ M' (R.mono le) mk' q⟩
  exact k.nx W' m' _ _ M' (own_nx R le hn hp hf hv) mk' q
theorem ds_setLc {j : Nat} {y : Str} {py spos : Pos} (hN : X.N.Nodup) (hi : DI X wx tg iter Ti) (ok : BlkOk X.N X.env.scope scope own) (hg : ∀ z, DGk (blkF X scope z) tg G (own.map (·.2))) (ht : ∀ z, DTs (blkF X scope z) wx0 ifs U) (he : ∀ z, DE (blkF X scope z) wx0 elt T)
    (hsw : swapsWith (.ListComp elt [⟨tg, iter, ifs, 0⟩] scope pos) (some (.Name y py)) spos.line X.env = pure true := by exact sw_true rfl rfl rfl (by decide +kernel)) (hy : X.N[j]? = some y := by rfl) (hyl : X.env.scope.names.lookup y = some .local := by rfl) (hc : X.calm = true := by rfl) (hs : ∀ x, foldedSetIterable iter X.env x = pure x := by intro _; rfl) :
    DS X wx (.Assign [.Name y py] (.ListComp elt [⟨tg, iter, ifs, 0⟩] scope pos) spos) (dAsg j (dLstOf (dLc Ti G U T (own.map (·.2))))) := by
  obtain ⟨t, p, r⟩ := ps_lc hN hi ok hg ht he hsw hy hyl hc hs
  refine ⟨_, p, fun W0 W m σ ρ M D DD R mk h k => r W0 W m σ ρ M _ _ _ R mk h (fun ds p vs W' m' M' q le mk' hn hp hf hv => ?_) fun C W' m' M' q le mk' => k.ex C W' m' σ ρ M' (R.mono le) mk' q⟩
  exact k.nx (W'.frz p _ hp) m' _ _ M' ((R.mono (le_frz le hn hp)).set (.lst (SqL.of (upd_same (H := W'.F))) (hv.mono (upd_ex hf)))) (mk'.frz hp hf) q
end
end Z

namespace Z
open PySem PySem.Spec PyProof.Rows L2
open Evl (Ex)

/-! ### methods of texts -/
abbrev SO := Str → List D → (D → Prop) → Prop
def RfSM (B : Bx) (r : V → List V → Hp → VK → Prop) (o : SO) : Prop := ∀ (W : Wd) (m : Hp) (M : Mu) (x : Str) (us : List V) (ds : List D) (Q : VK) (Qd : D → Prop), MOk B W M m → RpRs B W.F (cat W.H m) us ds → o x ds Qd →
  (∀ d v W', Qd d → W.le W' → MOk B W' M m → Rp B W'.F v d → Q v (cat W'.H m)) → r (.str x) us (cat W.H m) Q
def onStr (x : D) (P : Str → Prop) : Prop := match x with | .str z => P z | _ => False
def dSM (o : SO) (To : DTE) (R : DTA) : DTE := fun ρ M Q E => To ρ M (fun x M1 => onStr x fun z => R ρ M1 (fun as M2 => o z (as.map (drf M2)) fun d => Q d M2) E) E
section
variable {X : Cx} {wx : WX} {e a ob ce : Expr} {es : List Expr} {T Ta To : DTE} {R : DTA} {pos : Pos} {ms : List Bool} {r : V → List V → Hp → VK → Prop} {o : SO}
theorem de_sm (pb : ∀ {to t}, PE X ob to → PA X (e :: es) t → PE X ce (tBM X.K "str" r to t)) (hr : RfSM (bx X) r o) (ho : DR X wx ob To) (ha : DM X wx ms (e :: es) R) : DE X wx ce (dSM o To R) := by
  obtain ⟨to, po, ro⟩ := ho
  obtain ⟨t, pa, ra⟩ := ha
  refine ⟨_, pb po pa, fun W0 W m σ ρ M Q Qd Ed Re k h1 h2 h3 => ro W0 W m σ ρ M _ _ Ed Re k h1 (fun d v W' m' M' q le k' hv => ?_) h3⟩
  cases d with
  | str z =>
    cases hv
    refine ⟨rfl, ra W0 W' m' σ ρ M' _ _ Ed (Re.mono le) k' q (fun ds us W2 m2 M2 q2 le2 k2 hu => ?_) (h3.up le)⟩
    exact hr W2 m2 M2 z us _ Q _ k2 (hu.reads k2) q2 fun d3 v3 W3 q3 le3 k3 r3 => h2 d3 v3 W3 m2 M2 q3 ((le.trans le2).trans le3) k3 r3
  | _ => exact q.elim
end
section
variable {B : Bx}
theorem rf_s1 {r : V → List V → Hp → VK → Prop} {C : Str → Str → Prop} {g : Str → Str → V} {gd : Str → Str → D} (hr : ∀ a b H (Q : VK), C a b → Q (g a b) H → r (.str a) [.str b] H Q) (hg : ∀ a b F, Rp B F (g a b) (gd a b)) :
    RfSM B r (fun x ds Q => match ds with | [.str b] => C x b ∧ Q (gd x b) | _ => False) := by
  intro W m M x us ds Q Qd mk hu h k
  split at h
  · cases hu with
    | cons r1 t1 =>
      cases t1
      cases r1
      exact hr _ _ _ _ h.1 (k _ _ W h.2 (Wd.le.refl W) mk (hg _ _ _))
  · exact h.elim
def soStarts : SO := fun x ds Q => match ds with | [.str b] => True ∧ Q (.bl (Txt.startswith x b)) | _ => False
theorem rf_starts : RfSM B (fun x xs H Q => ∃ a b, x = .str a ∧ xs = [.str b] ∧ Q (.bl (Txt.startswith a b)) H) soStarts := rf_s1 (C := fun _ _ => True) (fun a b H Q _ q => ⟨a, b, rfl, rfl, q⟩) fun _ _ _ => .bl _
def soFind : SO := fun x ds Q => match ds with | [.str b] => True ∧ Q (.int (Txt.find x b)) | _ => False
theorem rf_find : RfSM B (fun x xs H Q => ∃ a b, x = .str a ∧ xs = [.str b] ∧ Q (.int (Txt.find a b)) H) soFind := rf_s1 (C := fun _ _ => True) (fun a b H Q _ q => ⟨a, b, rfl, rfl, q⟩) fun _ _ _ => .int _
def soStrip : SO := fun x ds Q => match ds with | [.str b] => x.length ≤ sizeLine ∧ Q (.str (Txt.stripChars x b)) | _ => False
theorem rf_strip : RfSM B (fun x xs H Q => ∃ a b, x = .str a ∧ xs = [.str b] ∧ a.length ≤ sizeLine ∧ Q (.str (Txt.stripChars a b)) H) soStrip := rf_s1 (C := fun a _ => a.length ≤ sizeLine) (fun a b H Q c q => ⟨a, b, rfl, rfl, c, q⟩) fun _ _ _ => .str _
def soPart : SO := fun x ds Q => match ds with | [.str b] => (b.length == 0) = false ∧ x.length ≤ sizeLine ∧ Q (.tup [.str (Txt.partition x b).1, .str (Txt.partition x b).2.1, .str (Txt.partition x b).2.2]) | _ => False
theorem rf_part : RfSM B (fun x xs H Q => ∃ a b, x = .str a ∧ xs = [.str b] ∧ (b.length == 0) = false ∧ a.length ≤ sizeLine ∧ ∀ p, H p = none → Q (.ref p) (upd H p (.tup [.str (Txt.partition a b).1, .str (Txt.partition a b).2.1, .str (Txt.partition a b).2.2]))) soPart := by
  intro W m M x us ds Q Qd mk hu h k
  unfold soPart at h
  split at h
  · cases hu with
    | cons r1 t1 =>
      cases t1
      cases r1
      exact ⟨_, _, rfl, rfl, h.1, h.2.1, fun p hp => newT mk hp (.cons (.str _) (.cons (.str _) (.cons (.str _) .nil))) fun W' le mk' rr => k _ _ W' h.2.2 le mk' rr⟩
  · exact h.elim
def soSplit : SO := fun x ds Q => match ds with | [.str b] => (b.length == 0) = false ∧ x.length + 2 ≤ sizeLine ∧ Q (.lst ((Txt.split x b).map .str)) | _ => False
theorem rf_split : RfSM B (fun x xs H Q => ∃ a b, x = .str a ∧ xs = [.str b] ∧ (b.length == 0) = false ∧ a.length + 2 ≤ sizeLine ∧ rNewStrs (Txt.split a b) H Q) soSplit := by
  intro W m M x us ds Q Qd mk hu h k
  unfold soSplit at h
  split at h
  · cases hu with
    | cons r1 t1 =>
      cases t1
      cases r1
      exact ⟨_, _, rfl, rfl, h.1, h.2.1, fun p hp => newL mk hp (RpAll.of_strs _) fun W' le mk' rr => k _ _ W' h.2.2 le mk' rr⟩
  · exact h.elim
/-- texts out of data -/
def strsD : List D → Option (List Str)
  | [] => some []
  | .str x :: r => (strsD r).map (x :: ·)
  | _ :: _ => none
theorem strsD_of : ∀ {ds : List D} {ys : List Str}, strsD ds = some ys → ds = ys.map .str
  | [], ys, h => by cases h; rfl
  | .str x :: r, ys, h => by
    unfold strsD at h
    obtain ⟨zs, h1, h2⟩ := Option.map_eq_some_iff.mp h
    subst h2
    rw [strsD_of h1]; rfl
  | .non :: _, _, h => by cases h
  | .bl _ :: _, _, h => by cases h
  | .int _ :: _, _, h => by cases h
  | .lst _ :: _, _, h => by cases h
  | .tup _ :: _, _, h => by cases h
  | .obj _ _ :: _, _, h => by cases h
  | .ref _ :: _, _, h => by cases h
  | .ty _ :: _, _, h => by cases h
  | .cls _ :: _, _, h => by cases h
  | .exc _ :: _, _, h => by cases h
  | .dic _ _ :: _, _, h => by cases h
theorem strsD_map : ∀ ys : List Str, strsD (ys.map .str) = some ys
  | [] => rfl
  | y :: ys => by show (strsD (ys.map .str)).map (y :: ·) = _; rw [strsD_map ys]; rfl
def joinD (x : Str) (xs : List D) (Q : D → Prop) : Prop := ∃ ys, strsD xs = some ys ∧ (ys.map (·.length)).sum + ys.length * x.length ≤ 16777216 ∧ Q (.str (Txt.join x ys))
def soJoin : SO := fun x ds Q => match ds with | [.lst xs] => joinD x xs Q | [.tup xs] => joinD x xs Q | _ => False
theorem rf_join : RfSM B (fun x xs H Q => ∃ a p, ∃ ys : List Str, x = .str a ∧ xs = [.ref p] ∧ (SqL B.K H p (ys.map V.str) ∨ SqT B.K H p (ys.map V.str)) ∧ (ys.map (·.length)).sum + ys.length * a.length ≤ 16777216 ∧ Q (.str (Txt.join a ys)) H) soJoin := by
  intro W m M x us ds Q Qd mk hu h k
  have ok := W.ok.trans (cat_ex W.H m)
  unfold soJoin at h
  split at h
  · obtain ⟨ys, e, hz, h⟩ := h
    have e := strsD_of e
    subst e
    cases hu with
    | cons r1 t1 =>
      cases t1
      obtain ⟨p, vs, rfl, s1, s2⟩ := r1
      rw [s2.strs] at s1
      exact ⟨x, p, ys, rfl, rfl, .inl s1, hz, k _ _ W h (Wd.le.refl W) mk (.str _)⟩
  · obtain ⟨ys, e, hz, h⟩ := h
    have e := strsD_of e
    subst e
    cases hu with
    | cons r1 t1 =>
      cases t1
      cases r1 with
      | tup s1 s2 =>
        rw [s2.strs] at s1
        exact ⟨x, _, ys, rfl, rfl, .inr (Evl.ex_t ok s1), hz, k _ _ W h (Wd.le.refl W) mk (.str _)⟩
  · exact h.elim
def lmInsert : LM := fun _ ds as Q => match as with | [.int i, d] => ds.length < sizeLine ∧ 0 ≤ i ∧ i < 2 ^ 63 ∧ Q .non (ds.take i.toNat ++ [d] ++ ds.drop i.toNat) | _ => False
theorem rf_insert : RfL B [true, false] (fun x vs H Q => ∃ (l : Addr) (xs : List V) (i : Int) (y : V), x = .ref l ∧ vs = [.int i, y] ∧ H l = some (.lst xs) ∧ xs.length < sizeLine ∧ 0 ≤ i ∧ i < 2 ^ 63 ∧ Q .non (upd H l (.lst (xs.take i.toNat ++ [y] ++ xs.drop i.toNat)))) lmInsert := by
  intro W m M a vs ds us as Q Qd mk ha rv hu h k
  unfold lmInsert at h
  split at h
  · cases hu with
    | bor r1 t1 =>
      cases t1 with
      | dat r2 t2 =>
        cases t2
        have := rp_int r1
        subst this
        exact ⟨a, vs, _, _, rfl, rfl, ha, by rw [rv.length]; exact h.1, h.2.1, h.2.2.1, k _ _ _ _ h.2.2.2 .non (((rv.take _).append (.cons r2 .nil)).append (rv.drop _))⟩
  · exact h.elim
/-- xs[i] = e -/
def lmSet : LM := fun _ ds as Q => match as with | [.int i, d] => ∃ j, ixN ds.length i = some j ∧ Q .non (ds.set j d) | _ => False
def rSetLv : V → List V → Hp → VK → Prop := fun x us H Q => ∃ i v, us = [i, v] ∧ rSetL x i v H fun H' => Q .non H'
theorem rf_setL : RfL B [true, false] rSetLv lmSet := by
  intro W m M a vs ds us as Q Qd mk ha rv hu h k
  unfold lmSet at h
  split at h
  · cases hu with
    | bor r1 t1 =>
      cases t1 with
      | dat r2 t2 =>
        cases t2
        have := rp_int r1
        subst this
        obtain ⟨j, e, h⟩ := h
        exact ⟨_, _, rfl, a, vs, _, j, rfl, rfl, ha, by rw [rv.length]; exact e, k _ _ _ _ h .non (rv.set r2 j)⟩
  · exact h.elim
/-- xs[i] += n -/
def lmAugS (f : Int → Int → Int) (n : Int) : LM := fun _ ds as Q => match as with | [.int i] => ∃ j x, ixN ds.length i = some j ∧ ds[j]? = some (.int x) ∧ Q .non (ds.set j (.int (f x n))) | _ => False
end
section
variable {X : Cx} {wx : WX} {e a b : Expr} {T Ta : DTE} {pos tpos p2 : Pos} {i : Nat} {x : Str}
/-- x[k] = e, x an own list or one of the store -/
def dStore (i : Nat) (Tk Te : DTE) : DTS := fun DD ρ M => Te ρ M (fun d M1 => lmPre ρ M1 i ∧ Tk ρ M1 (fun k M2 => lmAt lmSet ρ M2 i [k, d] fun _ ρ' M' => DD.nx ρ' M') fun C => DD.ex C ρ) fun C => DD.ex C ρ
theorem ds_store (i : Nat) (pg : ∀ {tb}, PE X b tb → PG X (.Subscript (.Name x p2) b tpos) (gSub (tVar i) tb rSetL)) (he : DE X wx e T) (hk : DR X wx b Ta) (hs : swapsWithSole [.Subscript (.Name x p2) b tpos] e pos.line X.env = pure false := by rfl) (hw : swappedStores [.Subscript (.Name x p2) b tpos] e X.env = pure none := by rfl) (h1 : (assignEach [.Subscript (.Name x p2) b tpos] X.env).map (·.2) = [assign (.Subscript (.Name x p2) b tpos) X.env] := by rfl) :
    DS X wx (.Assign [.Subscript (.Name x p2) b tpos] e pos) (dStore i Ta T) := by
  obtain ⟨t, p, r⟩ := he
  obtain ⟨tk, pk, rk⟩ := hk
  refine ⟨_, ps_asg p (pg pk) hs hw h1, fun W0 W m σ ρ M D DD R mk h k => r W0 W m σ ρ M _ _ _ R mk h (fun d v W' m' M' q le mk' hv => ?_) fun C W' m' M' q le mk' => k.ex C W' m' σ ρ M' (R.mono le) mk' q⟩
  obtain ⟨hp, q⟩ := q
  obtain ⟨aa, vs, s1, s2⟩ := lmPre_of (R.mono le) mk' hp
  refine ⟨_, s1, rk W0 W' m' σ ρ M' _ _ _ (R.mono le) mk' q (fun kd kv W2 m2 M2 q2 le2 mk2 rk2 => ?_) fun C W2 m2 M2 q2 le2 mk2 => k.ex C W2 m2 σ ρ M2 ((R.mono le).mono le2) mk2 q2⟩
  obtain ⟨a', vs', s1', s2', s3⟩ := rf_lmut (B := bx X) (Q := fun _ H' => D.nx σ H') rf_setL ((R.mono le).mono le2) mk2 (.bor rk2 (.dat (hv.mono le2.f) .nil)) q2 fun d v W3 m3 ρ3 M3 q3 R3 mk3 _ => k.nx W3 m3 σ ρ3 M3 R3 mk3 q3
  rw [s1] at s1'
  cases s1'
  obtain ⟨_, _, e, s3⟩ := s3
  cases e
  exact s3
/-- x += [..] of an own list or one of the store -/
def dAugL (i : Nat) (Te : DTE) : DTS := fun DD ρ M => Te ρ M (fun d M1 => lmAt lmExtend ρ M1 i [d] fun _ ρ' M' => DD.nx ρ' M') fun C => DD.ex C ρ
def rIaddv (K : PySem.W.Frag) : V → List V → Hp → VK → Prop := fun x us H Q => ∃ y, us = [y] ∧ rIaddS K x y H fun v H' => v = x ∧ Q .non H'
theorem rf_iadd {B : Bx} : RfL B [true] (rIaddv B.K) lmExtend := by
  intro W m M a vs ds us as Q Qd mk ha rv hu h k
  obtain ⟨l, b, xs, zs, e1, e2, h1, h2, h3, h4⟩ := rf_extend W m M a vs ds us as Q Qd mk ha rv hu h k
  exact ⟨.ref b, e2, l, b, xs, zs, e1, rfl, h1, h2, h3, e1.symm, h4⟩
theorem set_same {σ : L2.St} {i : Nat} {v : Option V} (h : σ[i]? = some v) : σ.set i v = σ := by
  refine List.ext_getElem? fun j => ?_
  rw [List.getElem?_set]
  split
  · rename_i z
    subst z
    rw [h]
    have := (List.getElem?_eq_some_iff.mp h).1
    simp [this]
  · rfl
theorem ds_augL (i : Nat) (hN : X.N.Nodup) (he : DR X wx e T) (hi : X.N[i]? = some x := by rfl) (hx : Loc X.env.scope x := by first | exact Or.inl rfl | exact Or.inr rfl) (hf : X.fn x = true ∨ X.env.scope.names.lookup x = some .local := by first | exact .inl rfl | exact .inr rfl) : DS X wx (.AugAssign (.Name x p2) .Add e pos) (fun DD ρ M => lmPre ρ M i ∧ dAugL i T DD ρ M) := by
  obtain ⟨t, p, r⟩ := he
  refine ⟨_, ps_aug hN hi hx p ip_cat hf, fun W0 W m σ ρ M D DD R mk h k => ?_⟩
  obtain ⟨hp, h⟩ := h
  obtain ⟨aa, vs, s1, s2⟩ := lmPre_of R mk hp
  refine ⟨_, s1, r W0 W m σ ρ M _ _ _ R mk h (fun d v W' m' M' q le mk' hv => ?_) fun C W' m' M' q le mk' => k.ex C W' m' σ ρ M' (R.mono le) mk' q⟩
  obtain ⟨a', vs', s1', s2', s3⟩ := rf_lmut (B := bx X) (Q := fun _ H' => D.nx σ H') rf_iadd (R.mono le) mk' (.bor hv .nil) q fun d v W3 m3 ρ3 M3 q3 R3 mk3 _ => k.nx W3 m3 σ ρ3 M3 R3 mk3 q3
  rw [s1] at s1'
  cases s1'
  obtain ⟨y, e, l, b, xs, zs, e1, e2, h1, h2, h3, h4, h5⟩ := s3
  cases e
  refine ⟨l, b, xs, zs, e1, e2, h1, h2, h3, ?_⟩
  show D.nx (σ.set i (some (.ref l))) _
  rw [h4, set_same s1]
  exact h5
/-- x[k] += n -/
theorem rf_augS {B : Bx} {f : Int → Int → Int} {n : Int} : RfL B [true] (fun x us H Q => ∃ i, us = [i] ∧ rIx B.K x i H fun v H1 => ipI f v (.int n) H1 fun z H2 => rSetL x i z H2 fun H3 => Q .non H3) (lmAugS f n) := by
  intro W m M a vs ds us as Q Qd mk ha rv hu h k
  unfold lmAugS at h
  split at h
  · rename_i kk
    cases hu with
    | bor r1 t1 =>
      cases t1
      have := rp_int r1
      subst this
      obtain ⟨j, y, e1, e2, h⟩ := h
      obtain ⟨v, e3, r3⟩ := rv.get e2
      cases r3
      have hj : ixN vs.length kk = some j := by rw [rv.length]; exact e1
      exact ⟨_, rfl, .inl ⟨a, vs, _, .int y, rfl, rfl, SqL.of ha, by unfold atI; rw [hj]; exact e3, y, n, rfl, rfl, a, vs, _, j, rfl, rfl, ha, hj, k _ _ _ _ h .non (rv.set (.int _) j)⟩⟩
  · exact h.elim
def dAugS (f : Int → Int → Int) (n : Int) (i : Nat) (Tk : DTE) : DTS := fun DD ρ M => lmPre ρ M i ∧ Tk ρ M (fun k M2 => lmAt (lmAugS f n) ρ M2 i [k] fun _ ρ' M' => DD.nx ρ' M') fun C => DD.ex C ρ
theorem ds_augS {f : Int → Int → Int} {n : Int} {op : Operator} {st : Stmt} (i : Nat) (ps : ∀ {tb}, PE X b tb → PS X st (tAugS (tVar i) tb (tC (.int n)) (rIx X.K) (ipI f) rSetL)) (hk : DR X wx b Ta) : DS X wx st (dAugS f n i Ta) := by
  obtain ⟨tk, pk, rk⟩ := hk
  refine ⟨_, ps pk, fun W0 W m σ ρ M D DD R mk h k => ?_⟩
  obtain ⟨hp, h⟩ := h
  obtain ⟨aa, vs, s1, s2⟩ := lmPre_of R mk hp
  refine ⟨_, s1, rk W0 W m σ ρ M _ _ _ R mk h (fun kd kv W2 m2 M2 q2 le2 mk2 rk2 => ?_) fun C W2 m2 M2 q2 le2 mk2 => k.ex C W2 m2 σ ρ M2 (R.mono le2) mk2 q2⟩
  obtain ⟨a', vs', s1', s2', s3⟩ := rf_lmut (B := bx X) (Q := fun _ H' => D.nx σ H') (rf_augS (f := f) (n := n)) (R.mono le2) mk2 (.bor rk2 .nil) q2 fun d v W3 m3 ρ3 M3 q3 R3 mk3 _ => k.nx W3 m3 σ ρ3 M3 R3 mk3 q3
  rw [s1] at s1'
  cases s1'
  obtain ⟨_, e, s3⟩ := s3
  cases e
  exact s3
/-- [..] * n, "..." * n -/
def oRep (x y : D) (Q : D → Prop) : Prop := match x, y with
  | .str z, .int n => z.length * n.toNat ≤ sizeLine ∧ Q (.str ⟨(List.replicate n.toNat z.cps.toList).flatten.toArray⟩)
  | _, _ => False
end
end Z

/-! Exceptions: raise, try. -/
namespace Z
open PySem PySem.Spec PyProof.Rows L2
open Evl (Ex)

/-! ### what is never reached needs no rule -/
section
variable {X : Cx} {wx : WX} {e : Expr} {st : Stmt} {rest : List Stmt}
def dNo : DTS := fun _ _ _ => False
theorem ds_no : DS X wx st dNo := ⟨fun _ _ _ => False, ⟨fun _ _ _ _ _ _ h => h.elim⟩, fun _ _ _ _ _ _ _ _ _ _ h _ => h.elim⟩
theorem dss_no : DSs X wx rest dNo := ⟨fun _ _ _ => False, ⟨fun _ _ _ _ _ _ h => h.elim⟩, fun _ _ _ _ _ _ _ _ _ _ h _ => h.elim⟩
def dNoE : DTE := fun _ _ _ _ => False
theorem de_no : DE X wx e dNoE := ⟨fun _ _ _ => False, ⟨fun _ _ _ _ _ _ h => h.elim⟩, fun _ _ _ _ _ _ _ _ _ _ _ h _ _ => h.elim⟩
end

/-! ### raise -/
/-- the class n of exceptions: a heir of ValueError without anything of its own -/
structure XcF (B : Bx) (n : Str) : Prop where
  mg : B.mg n = some (.ref (B.cl n))
  xc : PySem.W.excIn B.K (B.cl n) He.veBase "ValueError.__new__" = true
  kp : PySem.W.keepIn B.K (.ref (B.cl n)) = true
  sb : PySem.W.subIn B.K (.ref (B.cl n)) (.type "BaseException") = some true
  ty : PySem.W.typeIn B.K (.ref (B.cl n)) = some (.type "type")
theorem XcF.of {B : Bx} {n : Str} {a : Addr} (h0 : B.mg n = some (.ref a)) (h : PySem.W.excIn B.K a He.veBase "ValueError.__new__" = true ∧ PySem.W.keepIn B.K (.ref a) = true ∧ PySem.W.subIn B.K (.ref a) (.type "BaseException") = some true ∧ PySem.W.typeIn B.K (.ref a) = some (.type "type")) : XcF B n := by
  have e := cl_of h0
  obtain ⟨h1, h2, h3, h4⟩ := h
  refine ⟨?_, ?_, ?_, ?_, ?_⟩ <;> rw [e] <;> assumption
def dRaise (n : Str) : DTS := fun DD ρ M => DD.ex n ρ M
section
variable {X : Cx} {wx : WX} {pos p p2 pos' : Pos}
theorem ds_raise {n msg : Str} {j : Nat} (tk : Takes X wx) (h : XcF (bx X) n) (hc : X.calm = true := by rfl) (hg : Gl X n := by rfl) (hd : (n == ("__debug__" : Str)) = false := by decide) : DS X wx (.Raise (some (.Call (.Name n p) [.Constant (.str msg) j p2] [] pos')) none pos) (dRaise n) :=
  ⟨_, ps_raise hc tk (pmk_own PySem.F.excBase_ValueError h.xc h.mg h.kp (raises_own h.sb h.ty) hg hd), fun W0 W m σ ρ M D DD R mk q k => k.ex n W m σ ρ M R mk q⟩
end

/-! ### try .. except x as n: the exception is tracked -/
section
variable {X : Cx} {pins : List (Addr × Obj)} {σ : L2.St} {H : Hp} {s sI : Shared} {a : Addr} {o : HO}
theorem inv_track (J : Inv X pins σ H sI) (K : Inv X pins σ H s) (hex : X.ex = []) (na : H a = none) (fr : sI.heap.get? a = none) (new : ObjOk X.prog X.w (upd H a o) s.heap a o) : Inv X pins σ (upd H a o) s := by
  have ne : ∀ {b : Addr} {u : Obj}, sI.heap.get? b = some u → b ≠ a := fun e z => by rw [z, fr] at e; cases e
  have tr : ∀ {b : Addr} {u : HO}, H b = some u → upd H a o b = some u := fun e => by rw [upd_ne (ne_of_none e na)]; exact e
  refine ⟨K.ok, K.os, K.bare, ⟨K.base.keep, K.base.slot, fun b u e n hx => ?_, K.base.there, fun b xs e => tr (K.base.tups b xs e), fun b u v e => tr (K.base.frzs b u v e), fun b ps e => ?_⟩, K.loc, K.cell, ?_, fun x c e => ?_, fun q hq => ?_, fun b u e => ?_, K.len⟩
  · obtain ⟨u', e'⟩ := J.base.there b u e hx
    rw [upd_ne (ne e')]; exact K.base.free b u e n hx
  · obtain ⟨more, e'⟩ := K.base.tbls b ps e
    exact ⟨more, tr e'⟩
  · obtain ⟨mm, ⟨ol, _, _, e, _⟩, _⟩ := J.loc
    rw [upd_ne (ne e)]; exact K.free
  · obtain ⟨v, hv⟩ := J.cell x c e
    obtain ⟨u, hu, _⟩ := hv
    rw [upd_ne (ne hu)]; exact K.freeC x c e
  · obtain ⟨q1, q2, q3⟩ := K.pin q hq
    refine ⟨q1, ?_, q3⟩
    rw [upd_ne (ne (J.pin q hq).1)]; exact q2
  · by_cases z : b = a
    · subst z; rw [upd_same] at e; cases e; exact new
    · rw [upd_ne z] at e
      exact (K.hok b u e).stay (fun _ _ _ q => q) (fun _ q => tr q) fun _ _ q => tr q
theorem excAt_ok {P : Program} {w : World} {H' : Hp} {h : Heap} {C : Addr} {oe : Obj} {vs : Array Value} (he : h.get? a = some oe) (hz : Zc (.ref C) none oe) (hd : oe.data = .fields vs) : ObjOk P w H' h a (.ext (ExcAt a C)) :=
  ⟨⟨oe, vs, he, hz.1, hz.2, hd⟩, ⟨oe, he⟩, fun h1 h2 ⟨o1, v1, e1, r⟩ k => ⟨o1, v1, k _ e1, r⟩⟩
theorem inv_hot (I : Inv X pins σ H s) : Inv (X.suite a (X.pn ++ pins)) [] σ H s :=
  ⟨I.ok.suite _ _, I.os, I.bare, I.base, I.loc, I.cell, I.free, I.freeC, fun q hq => I.pin q (by rw [List.append_nil] at hq; exact hq), I.hok, I.len⟩
theorem inv_cool {pn' : List (Addr × Obj)} (I : Inv (X.suite a (X.pn ++ pins)) pn' σ H s) (ok : X.Ok) : Inv X pins σ H s :=
  ⟨ok, I.os, I.bare, I.base, I.loc, I.cell, I.free, I.freeC, fun q hq => I.pin q (List.mem_append_left _ hq), I.hok, I.len⟩
end
/-- the ends of a suite: the clause's name goes -/
def endsGo (i : Nat) (D : Ends) : Ends := { nx := fun σ H => D.nx (σ.set i none) H, rt := D.rt, bk := fun σ H => D.bk (σ.set i none) H, ct := fun σ H => D.ct (σ.set i none) H }
def wTrk (K : PySem.W.Frag) (c : Value) (i : Nat) (ts : TS) (Wo : WX) (D : Ends) : WX := fun cls d σ H => ∃ b C, cls = .ref C ∧ d = none ∧ PySem.W.exmOne K (.ref C) c = some b ∧
  (b = true → ∀ a, H a = none → ts (endsGo i D) (σ.set i (some (.ref a))) (upd H a (.ext (ExcAt a C)))) ∧ (b = false → Wo (.ref C) none σ H)
section
variable {X : Cx} {x n : Str} {c : Value} {i : Nat} {body suite : List Stmt} {b₀ : Stmt} {np pos pos' : Pos} {tb : WX → TS} {ts : TS} {Wo : WX}
/-- what is behind the landing of an exception: the name is looked at, the suite runs or it flies on -/
abbrev landed (X : Cx) (pins : List (Addr × Obj)) (D : Ends) (hd : ExceptHandler) : Value → Shared → Prop := fun e s1 =>
  wpAny (model X.prog X.w) X.A (noteFrame e X.env) (fun _ s2 => wpAny (model X.prog X.w) X.A (setFlight e none) (fun _ s3 => wpAny (model X.prog X.w) X.A (handleBy e X.env [hd]) (SP X pins D) X.xe s3) X.xe s2) X.xe s1
theorem takes_trk {pins : List (Addr × Obj)} {D : Ends} (ok : X.Ok) (hs : X.stack = X.env :: X.outer) (hf : X.env.frame = some X.env.locals) (hex : X.ex = []) (hN : X.N.Nodup) (hi : X.N[i]? = some n) (hln : X.env.kindOf n = some .local) (hc : Names X x c) (tk : Takes X Wo)
    (hsu : ∀ (a : Addr) (pn : List (Addr × Obj)), PSs (X.suite a pn) (b₀ :: suite) ts) : Takes (X.tr (X.pn ++ pins) (landed X pins D (.ExceptHandler (some (.Name x np)) (some n) (b₀ :: suite) pos'))) (wTrk X.K c i ts Wo D) := by
  intro u s' xx
  obtain ⟨a, B, sI, pins', σ', H', cls, d, rfl, J', nb, up, sky, na, os, ag, b, C, rfl, rfl, hb1, hyes, hno⟩ := xx
  have J : Inv X pins σ' H' sI := J'.ofTry ok
  have hfr : X.A.frames = some (X.env :: X.outer) := ok.frames.trans (congrArg some hs)
  have sky : Sky B X.stack a (Zc (.ref C) none) X.env.locals s'.heap := sky
  rw [hs] at sky
  refine Sky.land Zc.steady hfr hf sky fun h3 fl3 up3 => ?_
  have J3 : Inv X pins σ' H' { s' with heap := h3 } := J.landed nb fl3.1 (up.trans up3) os ag
  obtain ⟨oe3, vs3, he3, hz3, hd3⟩ := fl3.there
  have nfr : a ∉ frs (X.env :: X.outer) := fun hm => by
    obtain ⟨_, o', e', hnf⟩ := fl3.2.2.1.mem hm
    rw [he3] at e'
    cases e'
    exact hnf _ hd3
  have fr : sI.heap.get? a = none := by
    cases q : sI.heap.get? a with
    | none => rfl
    | some o =>
      have z := nb a o q (by rw [hs]; exact nfr)
      rw [fl3.2.1] at z
      cases z
  have S3 : Inv (X.suite a (X.pn ++ pins)) [] σ' H' { s' with heap := h3 } := inv_hot J3
  refine wpAny_handleBy_cons (codeAny_handlers_test ?_) (by intro q; cases q)
  have LM := PySem.W.exm_one (M := model X.prog X.w) J3.kIn (fun A Q E s k q => wpAny_typeOf_ref (k _ _ he3) (by rw [hz3.1]; exact q)) hb1
  have test : ∀ {Q E : Value → Shared → Prop}, Q c { s' with heap := h3 } → wpAny (model X.prog X.w) (X.A.mark (some (.ref a))) (eval (.Name x np) X.env) Q E { s' with heap := h3 } := fun {Q E} q => by
    obtain ⟨hg, hdbg, hm | ⟨hm, hv, hnn⟩⟩ := hc
    · exact ld_glob S3 hg hm q hdbg
    · exact ld_blt S3 hg hm hv q hnn hdbg
  refine test (LM.here ?_)
  cases b with
  | true =>
    refine codeAny_handlers_suite_as (HandSPX.lands_againZ fl3 fun h4 fl4 up4 => ?_)
    obtain ⟨oe4, vs4, he4, hz4, hd4⟩ := fl4.there
    have J4 := inv_track J (J.landed (s' := { s' with heap := h4 }) nb fl4.1 ((up.trans up3).trans up4) os ag) hex na fr (excAt_ok he4 hz4 hd4)
    refine store_ok (X := X.suite a (X.pn ++ pins)) (v := .ref a) (inv_hot J4) hN hi (.inl hln) rfl (fun s5 S5 => ?_) (.inr hln)
    refine wpAny_mono ((hsu a (X.pn ++ pins)).run [] s5 _ _ _ S5 (hyes rfl a na)) (fun f s6 hsp => ?_) (fun _ _ z => z.elim)
    have fin : ∀ {σ6 : L2.St} {H6 : Hp} {Q : Shared → Prop}, Inv (X.suite a (X.pn ++ pins)) [] σ6 H6 s6 → (∀ s7, Inv X pins (σ6.set i none) H6 s7 → Q s7) → wpAny (model X.prog X.w) X.A (do bindName X.env n .none; unbindBehindTheSuite X.env n pos') (fun _ s7 => Q s7) X.xe s6 :=
      fun {σ6 H6 Q} S6 hq => gone_ok (inv_cool S6 ok) hN hi hln hq
    cases f with
    | next => obtain ⟨σ6, H6, S6, q6⟩ := hsp; exact fin S6 fun s7 J7 => ⟨_, _, J7, q6⟩
    | brk => obtain ⟨σ6, H6, S6, q6⟩ := hsp; exact fin S6 fun s7 J7 => ⟨_, _, J7, q6⟩
    | cont => obtain ⟨σ6, H6, S6, q6⟩ := hsp; exact fin S6 fun s7 J7 => ⟨_, _, J7, q6⟩
    | ret u => obtain ⟨v6, σ6, H6, S6, r6, q6⟩ := hsp; exact fin S6 fun s7 J7 => ⟨_, _, _, J7, r6, q6⟩
  | false =>
    refine wpAny_handleBy_nil ?_
    obtain ⟨k1, k2, k3, oe, vs, T, oT, ts', he, hz, hd, h1, hr⟩ := id fl3
    unfold PySem.passOn
    refine wpAny_bind (wpAny_field he hd h1 ?_)
    rw [if_neg (show ¬ ((Value.ref T == Value.none) = true) by simp)]
    have fly : wpAny (model X.prog X.w) X.A (setFlight (.ref a) X.env.frame) (fun _ s4 => wpAny (model X.prog X.w) X.A (throw (.ref a) : Sem Flow) (SP X pins D) X.xe s4) X.xe { s' with heap := h3 } := by
      rw [hf]
      exact HandSPX.setFlight_upZ fl3 fun h4 hh4 up4 => wpAny_throw (tk _ _ ⟨a, B, sI, pins, σ', H', _, _, rfl, J, nb, (up.trans up3).trans up4, .inr (.inr (by rw [hs]; exact hh4)), na, os, ag, hno rfl⟩)
    first
      | exact wpAny_bind (wpAny_pure (wpAny_bind fly))
      | exact wpAny_bind fly
theorem ps_tryT (hs : X.stack = X.env :: X.outer) (hf : X.env.frame = some X.env.locals) (hex : X.ex = []) (hN : X.N.Nodup) (hi : X.N[i]? = some n) (hln : X.env.kindOf n = some .local) (hc : Names X x c) (tk : Takes X Wo)
    (hb : ∀ (W : WX) (pn : List (Addr × Obj)) (xe : Value → Shared → Prop), Takes (X.tr pn xe) W → PassesOwn (model X.prog X.w) X.A X.env xe → PSs (X.tr pn xe) body (tb W))
    (hsu : ∀ (a : Addr) (pn : List (Addr × Obj)), PSs (X.suite a pn) (b₀ :: suite) ts) :
    PS X (.Try body [.ExceptHandler (some (.Name x np)) (some n) (b₀ :: suite) pos'] [] [] pos) (fun D σ H => tb (wTrk X.K c i ts Wo D) D σ H) := by
  refine ⟨fun pins s σ H D I h => wpAny_Try_except ?_⟩
  have ok := I.ok
  refine wpAny_mono ((hb _ (X.pn ++ pins) _ (takes_trk ok hs hf hex hN hi hln hc tk hsu) PassesOwn.looking).run [] s σ H D (I.toTry _) h) (fun f s1 hsp => ?_) (fun e s1 he => he)
  cases f with
  | next => obtain ⟨σ', H', J', q⟩ := hsp; exact wpAny_execs_nil ⟨σ', H', J'.ofTry ok, q⟩
  | brk => obtain ⟨σ', H', J', q⟩ := hsp; exact ⟨σ', H', J'.ofTry ok, q⟩
  | cont => obtain ⟨σ', H', J', q⟩ := hsp; exact ⟨σ', H', J'.ofTry ok, q⟩
  | ret u => obtain ⟨v, σ', H', J', r, q⟩ := hsp; exact ⟨v, σ', H', J'.ofTry ok, r, q⟩
end
/-- the classes that the clause catches | lets by, among those that the body may raise -/
structure ExcF (B : Bx) (x : Str) (yes no : List Str) : Prop where
  mg : B.mg x = some (.ref (B.cl x))
  yes : ∀ C ∈ yes, PySem.W.exmOne B.K (.ref (B.cl C)) (.ref (B.cl x)) = some true
  no : ∀ C ∈ no, PySem.W.exmOne B.K (.ref (B.cl C)) (.ref (B.cl x)) = some false
def dTry (i : Nat) (yes no : List Str) (S Su : DTS) : DTS := fun DD ρ M => S { DD with ex := fun C ρ1 M1 => (C ∈ yes ∧ Su ⟨fun ρ2 => DD.nx (ρ2.set i .un), DD.rt, fun ρ2 => DD.bk (ρ2.set i .un), fun ρ2 => DD.ct (ρ2.set i .un), fun _ _ _ => False⟩ (ρ1.set i (.dat (.exc C))) M1) ∨ (C ∈ no ∧ DD.ex C ρ1 M1) } ρ M
section
variable {X : Cx} {wx : WX} {x n : Str} {i : Nat} {body suite : List Stmt} {b₀ : Stmt} {np pos pos' : Pos} {S Su : DTS}
theorem ds_try {yes no : List Str} (hN : X.N.Nodup) (tk : Takes X wx) (hx : ExcF (bx X) x yes no)
    (hb : ∀ (W : WX) (pn : List (Addr × Obj)) (xe : Value → Shared → Prop), Takes (X.tr pn xe) W → PassesOwn (model X.prog X.w) X.A X.env xe → DSs (X.tr pn xe) W body S)
    (hsu : ∀ (a : Addr) (pn : List (Addr × Obj)), DSs (X.suite a pn) (fun _ _ _ _ => False) (b₀ :: suite) Su)
    (hs : X.stack = X.env :: X.outer := by rfl) (hf : X.env.frame = some X.env.locals := by rfl) (hex : X.ex = [] := by rfl) (hi : X.N[i]? = some n := by rfl) (hln : X.env.kindOf n = some .local := by rfl) (hg : Gl X x := by rfl) (hd : (x == ("__debug__" : Str)) = false := by decide) :
    DS X wx (.Try body [.ExceptHandler (some (.Name x np)) (some n) (b₀ :: suite) pos'] [] [] pos) (dTry i yes no S Su) := by
  have hsu' : ∃ ts, (∀ a pn, PSs (X.suite a pn) (b₀ :: suite) ts) ∧ RfS (bx X) (fun _ _ _ _ => False) ts Su := by
    refine ⟨fun D σ H => ∀ a pn, (hsu a pn).choose D σ H, fun a pn => ⟨fun pins s σ H D I h => ?_⟩, fun W0 W m σ ρ M D DD R mk h k a pn => ?_⟩
    · exact (hsu a pn).choose_spec.1.run pins s σ H D I (h a pn)
    · exact (hsu a pn).choose_spec.2 W0 W m σ ρ M D DD R mk h k
  obtain ⟨ts, p2, r2⟩ := hsu'
  have hb' : ∃ tb : WX → TS, (∀ W pn xe, Takes (X.tr pn xe) W → PassesOwn (model X.prog X.w) X.A X.env xe → PSs (X.tr pn xe) body (tb W)) ∧ ∀ W, RfS (bx X) W (tb W) S := by
    refine ⟨fun W D σ H => ∀ pn xe (h1 : Takes (X.tr pn xe) W) (h2 : PassesOwn (model X.prog X.w) X.A X.env xe), (hb W pn xe h1 h2).choose D σ H, fun W pn xe h1 h2 => ⟨fun pins s σ H D I h => ?_⟩, fun W W0 W1 m σ ρ M D DD R mk h k pn xe h1 h2 => ?_⟩
    · exact (hb W pn xe h1 h2).choose_spec.1.run pins s σ H D I (h pn xe h1 h2)
    · exact (hb W pn xe h1 h2).choose_spec.2 W0 W1 m σ ρ M D DD R mk h k
  obtain ⟨tb, p1, r1⟩ := hb'
  refine ⟨_, ps_tryT hs hf hex hN hi hln ⟨hg, hd, .inl hx.mg⟩ tk p1 p2, fun W0 W m σ ρ M D DD R mk h k => ?_⟩
  refine r1 _ W0 W m σ ρ M D _ R mk h ⟨k.nx, k.rt, k.bk, k.ct, fun C W' m' σ' ρ' M' R' mk' q => ?_⟩
  rcases q with ⟨hy, q⟩ | ⟨hn, q⟩
  · refine ⟨true, _, rfl, rfl, hx.yes C hy, fun _ a ha => ?_, fun z => by cases z⟩
    have ha1 := (cat_new ha).1
    have R2 := (R'.mono (W'.le_new (o := .ext (ExcAt a ((bx X).cl C))) ha1)).set (i := i) (v := .ref a) (d := .exc C) (.exc (upd_same (H := W'.F)))
    have q2 := r2 W0 (W'.new a _) m' _ _ M' (endsGo i D) _ R2 (mk'.new ha) q ⟨fun W3 m3 σ3 ρ3 M3 R3 mk3 h3 => k.nx W3 m3 _ _ M3 R3.unset mk3 h3, k.rt, fun W3 m3 σ3 ρ3 M3 R3 mk3 h3 => k.bk W3 m3 _ _ M3 R3.unset mk3 h3, fun W3 m3 σ3 ρ3 M3 R3 mk3 h3 => k.ct W3 m3 _ _ M3 R3.unset mk3 h3, fun _ _ _ _ _ _ _ _ h3 => h3⟩
    exact cat_q (P := fun H => ts (endsGo i D) _ H) q2
  · exact ⟨false, _, rfl, rfl, hx.no C hn, (fun z => by cases z), fun _ => k.ex C W' m' σ' ρ' M' R' mk' q⟩
end
end Z

/-! Classes: isinstance, fields, instances, methods. -/
namespace Z
open PySem PySem.Spec PyProof.Rows L2
open Evl (Ex)

/-! ### isinstance of own classes, of tuples of classes -/
structure OwnC (K : PySem.W.Frag) (C : Addr) : Prop where
  cl : Cls K C
  ha : PySem.W.findIn K (.ref C) "__class__" = some (some (.builtin "object.__class__"))
  hn : PySem.W.specialIn K (.builtin "object.__class__") "__get__" = some (some (.builtin "getset_descriptor.__get__"))
  ht : PySem.W.takesIn K (.builtin "object.__class__") = some true
  hm : PySem.W.mroIn K C (.type "object") = some true
def KtX (K : PySem.W.Frag) (H : Hp) (x : V) (t : Value) : Prop := TyX K H x t ∨ ∃ a C, x = .ref a ∧ t = .ref C ∧ H a = some (.ext (ExcAt a C)) ∧ ExcC K C
def rIsZ (K : PySem.W.Frag) : List V → Hp → VK → Prop := fun xs H Q => ∃ (x c : V) (t : Value) (us : List Value) (b : Bool), xs = [x, c] ∧ KtX K H x t ∧ ((∃ u, ClsV c u ∧ us = [u]) ∨ ∃ tp cs, c = .ref tp ∧ SqT K H tp cs ∧ Paired ClsV cs us) ∧ PySem.W.kitAny K t us = some b ∧ Q (.bl b) H
theorem kitAny_one {K : PySem.W.Frag} {t u : Value} {b : Bool} (h : PySem.W.kitAny K t [u] = some b) : PySem.W.kitOne K t u = some b := by
  unfold PySem.W.kitAny at h
  split at h
  · rename_i e; rw [e]; exact h
  · rename_i e; rw [e]; exact h
  · cases h
section
variable {X : Cx}
theorem kt_of {pins : List (Addr × Obj)} {σ : L2.St} {H : Hp} {s : Shared} {x : V} {u t : Value} (I : L2.Inv X pins σ H s) (rx : RelV x u) (ty : KtX X.K H x t) : ∃ P : Heap → Prop, PySem.W.KitX X.K u t P ∧ P s.heap ∧ u ≠ .builtin "__main__.__loader__#opaque" := by
  rcases ty with ty | ⟨a, C, rfl, rfl, ha, c⟩
  · exact kit_of I rx ty
  · cases (show u = Value.ref a from rx)
    obtain ⟨⟨oe, vs, h1, h2, h3, h4⟩, _, _⟩ := (show ObjOk X.prog X.w H s.heap a (.ext (ExcAt a C)) from I.hok a _ ha)
    refine ⟨_, PySem.W.handS_kitx_exc (ox := oe) c.hg c.hk c.hs c.hd c.ha c.hn c.ht c.hm, ?_, fun z => nomatch z⟩
    obtain ⟨oc, od, oda, osl⟩ := oe
    dsimp only at h2 h3 h4
    subst h2 h3 h4
    exact ⟨h1, rfl, rfl, trivial⟩
theorem call_isZ : CallR X (.builtin "isinstance") (rIsZ X.K) := by
  intro pins s σ H xs us Q I r h
  obtain ⟨x, c, t, ws, b, rfl, ty, hc, e, q⟩ := h
  obtain ⟨u1, u2, rfl, r1, r2⟩ := vals2 r
  obtain ⟨P, Z, p, hx⟩ := kt_of I r1 ty
  rcases hc with ⟨u, k, rfl⟩ | ⟨tp, cs, rfl, hT, k⟩
  · have e2 := k.eq r2
    subst e2
    exact PySem.W.kia_one Z I.kIn p (kitAny_one e) hx fun tk => ⟨.bl b, H, I.tok tk, rfl, q⟩
  · cases (show u2 = Value.ref tp from r2)
    obtain ⟨its, rv, ⟨o, h1, h2, n, h3⟩, hz⟩ := I.tuple hT
    have e3 := ClsV.all k rv
    subst e3
    obtain ⟨oc, od, dt, sl⟩ := o
    simp only at h2 h3
    subst h2 h3
    exact PySem.W.kia_tup Z I.kIn p h1 e hx fun tk => ⟨.bl b, H, I.tok tk, rfl, q⟩
end
/-- a class as data -/
def clsV (B : Bx) : D → Value
  | .cls n => .ref (B.cl n)
  | .ty n => .type n
  | _ => .none
def isCls : D → Bool
  | .cls _ => true
  | .ty _ => true
  | _ => false
/-- what isinstance(_, cs) says: of built-in types, of exceptions, of instances -/
structure IsF (B : Bx) (cs : List D) (bs : List (String × Bool)) (exs objs : List (Str × Bool)) : Prop where
  c : ∀ c ∈ cs, isCls c = true
  b : ∀ p ∈ bs, PySem.W.kitAny B.K (.type p.1) (cs.map (clsV B)) = some p.2
  x : ∀ p ∈ exs, ExcC B.K (B.cl p.1) ∧ PySem.W.kitAny B.K (.ref (B.cl p.1)) (cs.map (clsV B)) = some p.2
  o : ∀ p ∈ objs, OwnC B.K (B.cl p.1) ∧ PySem.W.kitAny B.K (.ref (B.cl p.1)) (cs.map (clsV B)) = some p.2
def isT (bs : List (String × Bool)) (exs objs : List (Str × Bool)) : D → Option Bool
  | .exc n => exs.lookup n
  | .obj n _ => objs.lookup n
  | d => match tyS d with | some s => bs.lookup s | none => none
def oIsC (cs : List D) (bs : List (String × Bool)) (exs objs : List (Str × Bool)) (ds : List D) (Q : D → Prop) : Prop := match ds with
  | [d, c] => (c = .tup cs ∨ cs = [c]) ∧ ∃ b, isT bs exs objs d = some b ∧ Q (.bl b)
  | _ => False
theorem lookup_mem' {α β : Type} [BEq α] [LawfulBEq α] {a : α} {b : β} : ∀ {l : List (α × β)}, l.lookup a = some b → (a, b) ∈ l
  | [], h => by cases h
  | (x, y) :: r, h => by
    rw [List.lookup_cons] at h
    cases q : a == x with
    | true => rw [q] at h; cases h; rw [eq_of_beq q]; exact List.mem_cons_self
    | false => rw [q] at h; exact List.mem_cons_of_mem _ (lookup_mem' h)
theorem clsV_all {B : Bx} {F : Hp} : ∀ {vs : List V} {cs : List D}, RpAll B F vs cs → (∀ c ∈ cs, isCls c = true) → Paired ClsV vs (cs.map (clsV B))
  | _, _, .nil, _ => .nil
  | _, _, .cons r t, h => .cons (by
      have hc := h _ List.mem_cons_self
      cases r <;> first | cases hc | skip
      · exact .ty _
      · exact .own _) (clsV_all t fun c hc => h c (List.mem_cons_of_mem _ hc))
theorem kt_isT {B : Bx} {W : Wd} {m : Hp} {v : V} {d : D} {cs : List D} {bs : List (String × Bool)} {exs objs : List (Str × Bool)} {b : Bool} (hf : IsF B cs bs exs objs) (h : RpR B W.F (cat W.H m) v d) (e : isT bs exs objs d = some b) :
    ∃ t, KtX B.K (cat W.H m) v t ∧ PySem.W.kitAny B.K t (cs.map (clsV B)) = some b := by
  have ok := W.ok.trans (cat_ex W.H m)
  have base : ∀ s, tyS d = some s → bs.lookup s = some b → ∃ t, KtX B.K (cat W.H m) v t ∧ PySem.W.kitAny B.K t (cs.map (clsV B)) = some b := fun s z y => ⟨.type s, .inl (tyX_of ok h z), hf.b _ (lookup_mem' y)⟩
  cases d with
  | exc n =>
    cases h with
    | exc h1 =>
      obtain ⟨c1, c2⟩ := hf.x _ (lookup_mem' (show exs.lookup n = some b from e))
      exact ⟨_, .inr ⟨_, _, rfl, rfl, ok _ _ h1, c1⟩, c2⟩
  | obj n fs =>
    obtain ⟨a, dx, fv, rfl, h1, h2⟩ := h
    obtain ⟨c1, c2⟩ := hf.o _ (lookup_mem' (show objs.lookup n = some b from e))
    exact ⟨_, .inl (.base (.ins h1 c1.cl c1.ha c1.hn c1.ht c1.hm)), c2⟩
  | non => exact base _ rfl e
  | bl _ => exact base _ rfl e
  | int _ => exact base _ rfl e
  | str _ => exact base _ rfl e
  | lst _ => exact base _ rfl e
  | tup _ => exact base _ rfl e
  | _ => cases e
theorem rf_isC {B : Bx} {cs : List D} {bs : List (String × Bool)} {exs objs : List (Str × Bool)} (hf : IsF B cs bs exs objs) : RfC B (rIsZ B.K) (oIsC cs bs exs objs) := by
  intro W m M vs ds Q Qd mk rs h k
  have ok := W.ok.trans (cat_ex W.H m)
  unfold oIsC at h
  split at h
  · rename_i d c
    obtain ⟨hc, b, e, q⟩ := h
    cases rs with
    | cons r1 t =>
      cases t with
      | cons r2 t =>
        cases t
        obtain ⟨t, h1, h2⟩ := kt_isT hf r1 e
        refine ⟨_, _, t, cs.map (clsV B), b, rfl, h1, ?_, h2, k _ _ W q (Wd.le.refl W) mk (.bl b)⟩
        rcases hc with rfl | rfl
        · cases r2 with
          | tup s1 s2 => exact .inr ⟨_, _, rfl, Evl.ex_t ok s1, clsV_all s2 hf.c⟩
        · refine .inl ?_
          have hc := hf.c _ List.mem_cons_self
          cases c <;> first | cases hc | skip
          · cases r2; exact ⟨_, .ty _, rfl⟩
          · cases r2; exact ⟨_, .own _, rfl⟩
  · exact h.elim

/-! ### fields -/
def FldF (B : Bx) (f : Str) (cs : List Str) : Prop := ∀ n ∈ cs, Cls B.K (B.cl n) ∧ NoAttr B.K (B.cl n) f
def fldD (f : Str) (cs : List Str) (d : D) (K : D → Prop) : Prop := match d with
  | .obj n fs => n ∈ cs ∧ ∃ x, fs.lookup f = some x ∧ K x
  | _ => False
def dFld (f : Str) (cs : List Str) (T : DTE) : DTE := fun ρ M Q E => T ρ M (fun d M' => fldD f cs (drf M' d) fun x => Q x M') E
section
variable {X : Cx} {wx : WX} {e o : Expr} {es : List Expr} {T : DTE} {pos pos' p apos : Pos} {f x : Str} {cs : List Str}
theorem de_fld (hf : FldF (bx X) f cs) (he : DR X wx e T) (hb : attributeBase e f X.env (eval e X.env) = eval e X.env := by rfl) : DE X wx (.Attribute e f pos) (dFld f cs T) := by
  obtain ⟨t, p, r⟩ := he
  refine ⟨_, pe_fld p hb, fun W0 W m σ ρ M Q Qd Ed R k h1 h2 h3 => r W0 W m σ ρ M _ _ Ed R k h1 (fun d v W' m' M' q le k' hv => ?_) h3⟩
  have hv := hv.drf k'
  cases z : Z.drf M' d with
  | obj n fs =>
    rw [z] at hv q
    obtain ⟨a, dx, fv, rfl, h4, h5⟩ := hv
    obtain ⟨hn, y, e1, q⟩ := q
    obtain ⟨u, e2, r2⟩ := h5.lookup e1
    obtain ⟨c1, c2⟩ := hf n hn
    exact ⟨a, _, dx, fv, u, rfl, h4, c1, c2, e2, h2 y u W' m' M' q le k' r2⟩
  | _ => rw [z] at q; exact q.elim
def putD (f : Str) (d : D) : List (Str × D) → List (Str × D)
  | [] => [(f, d)]
  | (g, x) :: r => if g = f then (g, d) :: r else (g, x) :: putD f d r
theorem RpF.put {B : Bx} {F : Hp} {f : Str} {v : V} {d : D} (r : Rp B F v d) : ∀ {fv : List (Str × V)} {fs : List (Str × D)}, RpF B F fv fs → RpF B F (putF f v fv) (putD f d fs)
  | _, _, .nil => .cons r .nil
  | _, _, .cons (f := g) q t => by
    unfold putF putD
    split
    · exact .cons r t
    · exact .cons q (RpF.put r t)
/-- self.f = e -/
def onIns (M : Mu) (e : Ent) (cs : List Str) (K : Addr → Str → List (Str × D) → Prop) : Prop := match e with
  | .dat (.ref a) => (match M a with | some (.ins n fs) => n ∈ cs ∧ fs.length < 900 ∧ K a n fs | _ => False)
  | _ => False
theorem onIns_of {M : Mu} {e : Ent} {cs : List Str} {K : Addr → Str → List (Str × D) → Prop} (h : onIns M e cs K) : ∃ a n fs, e = .dat (.ref a) ∧ M a = some (.ins n fs) ∧ n ∈ cs ∧ fs.length < 900 ∧ K a n fs := by
  unfold onIns at h
  split at h
  · split at h
    · rename_i z; exact ⟨_, _, _, rfl, z, h⟩
    · exact h.elim
  · exact h.elim
def dSetF (i : Nat) (f : Str) (cs : List Str) (T : DTE) : DTS := fun DD ρ M => T ρ M (fun d M' => onIns M' (ga ρ i) cs fun a n fs => DD.nx ρ (updM M' a (.ins n (putD f d fs)))) fun C => DD.ex C ρ
theorem ds_setF {i : Nat} (hf : FldF (bx X) f cs) (pv : PE X (.Name x p) (tVar i)) (he : DE X wx e T) (hs : swapsWith e (some (.Attribute (.Name x p) f pos')) pos.line X.env = pure false := by rfl) : DS X wx (.Assign [.Attribute (.Name x p) f pos'] e pos) (dSetF i f cs T) := by
  obtain ⟨t, pe, r⟩ := he
  refine ⟨_, ps_fld pv pe hs, fun W0 W m σ ρ M D DD R mk h k => r W0 W m σ ρ M _ _ _ R mk h (fun d v W' m' M' q le mk' hv => ?_) fun C W' m' M' q le mk' => k.ex C W' m' σ ρ M' (R.mono le) mk' q⟩
  obtain ⟨a, n, fs, e1, e2, hn, hl, q⟩ := onIns_of q
  obtain ⟨u, s1, ru⟩ := (R.mono le).dat e1
  cases ru
  have o1 := mk'.ok a
  rw [e2] at o1
  obtain ⟨dx, fv, o2, o3⟩ := o1
  have hH := mk'.hn e2
  obtain ⟨c1, c2⟩ := hf n hn
  refine ⟨_, s1, a, _, dx, fv, rfl, (cat_none hH).trans o2, c1, c2, by rw [o3.length]; omega, ?_⟩
  exact cat_qm (P := D.nx σ) hH (k.nx W' _ σ ρ _ (R.mono le) (mk'.put (ob := .ins n (putD f d fs)) hH ⟨dx, _, rfl, o3.put hv⟩) q)

/-! ### instances made -/
def delM (M : Mu) (a : Addr) : Mu := fun b => if b = a then none else M b
theorem del_upd {M : Mu} {a : Addr} {o : Ob} (h : M a = none) : delM (updM M a o) a = M := by
  funext b
  unfold delM updM
  by_cases z : b = a
  · subst z; rw [if_pos rfl, h]
  · rw [if_neg z, if_neg z]
theorem MOk.del {B : Bx} {W : Wd} {M : Mu} {m : Hp} (h : MOk B W M m) (a : Addr) : MOk B W (delM M a) m := h.weak fun b ob e => by
  unfold delM at e
  split at e
  · cases e
  · exact e
/-- an object of the store is frozen -/
theorem MOk.freeze {B : Bx} {W : Wd} {M : Mu} {m : Hp} {a : Addr} {n : Str} {fs : List (Str × D)} (h : MOk B W M m) (e : M a = some (.ins n fs)) : ∃ W' m', cat W'.H m' = cat W.H m ∧ W.le W' ∧ MOk B W' (delM M a) m' ∧ Rp B W'.F (.ref a) (.obj n fs) := by
  have hH := h.hn e
  have o1 := h.ok a
  rw [e] at o1
  obtain ⟨dx, fv, o2, o3⟩ := o1
  refine ⟨W.new a (.ins (B.cl n) dx fv), fun b => if b = a then none else m b, ?_, W.le_new hH, ⟨fun b hb => ?_, fun b => ?_⟩, .obj (upd_same (H := W.F)) (o3.mono (W.le_new hH).f)⟩
  · funext b
    by_cases z : b = a
    · subst z
      rw [cat_some (show (W.new b (.ins (B.cl n) dx fv)).H b = _ from upd_same), cat_none hH, o2]
    · unfold cat
      dsimp only
      rw [show (W.new a (.ins (B.cl n) dx fv)).H b = W.H b from upd_ne z, if_neg z]
  · by_cases z : b = a
    · rw [if_pos z]
    · rw [if_neg z]
      refine h.dj b ?_
      rw [← show (W.new a (.ins (B.cl n) dx fv)).H b = W.H b from upd_ne z]; exact hb
  · unfold delM
    by_cases z : b = a
    · rw [if_pos z, if_pos z]; trivial
    · rw [if_neg z, if_neg z]; exact (h.ok b).mono (W.le_new hH).f
/-- C(..) by its __init__; dv: the defaults at this call -/
structure MkF (B : Bx) (base : Heap) (k : Nat) (n : Str) (ms : List Bool) (dv : List D) (sp : SpM) : Prop where
  ex : ∃ f fd ps dvs ds, FnB B base k f fd ps ms sp ∧ B.mg n = some (.ref (B.cl n)) ∧ Mk B.K (B.cl n) f ∧ Binds B.K fd ps ds ∧ Vals dvs ds ∧ ∀ F, RpAll B F dvs dv
def tMakeS (C : Addr) (sp : Sp) (dvs : List V) (E : L2.St → XK) (t : TA) : TE := fun σ H Q => t σ H fun vs H1 => ∀ x dx, H1 x = none → H1 dx = none → dx ≠ x → sp (.ref x :: (vs ++ dvs)) (upd (upd H1 dx (.own x)) x (.ins C dx [])) (fun v H2 => v = .non ∧ Q (.ref x) H2) (E σ)
theorem run_makeS {CX : CXT} {k : Nat} {g C : Addr} {fd : FuncData} {ps : List Str} {sp : Sp} {dvs : List V} {ds : List Value} {E : XK} {pins : List (Addr × Obj)} {σ : L2.St} {H : Hp} {s : Shared} {Q : VK} {us : List Value} {vs : List V}
    (M : Mk X.K C g) (F : FnOk X.prog X.w X.K X.mg X.base CX k g fd ps sp) (hr : Room (k + 1) X.A) (hb : Binds X.K fd ps ds) (hd : Vals dvs ds) (hx : PassesAt CX X σ E) (I : L2.Inv X pins σ H s) (r : Vals vs us)
    (h : ∀ x dx, H x = none → H dx = none → dx ≠ x → sp (.ref x :: (vs ++ dvs)) (upd (upd H dx (.own x)) x (.ins C dx [])) (fun v H2 => v = .non ∧ Q (.ref x) H2) E) :
    wpAny (model X.prog X.w) X.A (call (.ref C) us) (EP X pins σ Q) X.xe s := by
  have hq := h _ _ (I.hok.fresh (Nat.le_succ s.heap.objs.size)) (I.hok.fresh (Nat.le_refl s.heap.objs.size)) (Nat.ne_of_lt (Nat.lt_succ_self _))
  have J := Inv.made (C := C) I
  have r2 : Vals (V.ref (s.heap.objs.size + 1) :: (vs ++ dvs)) (.ref (s.heap.objs.size + 1) :: (us ++ ds)) := .cons rfl (r.append hd)
  have hl : (Value.ref (s.heap.objs.size + 1) :: us ++ ds).length = ps.length := (r2.length.symm.trans (F.len _ _ _ _ hq))
  refine wpAny_call (make_map I.kIn M.makes M.init (beq_iff_eq.mp M.fn) (codeAny_mono (F.run _ X.stack _ _ ⟨.ref (s.heap.objs.size + 1) :: us, []⟩ _ _ _ E (hr.make C us []) (J.env0.make C us []) (hb _ (.ref (s.heap.objs.size + 1) :: us) J.kIn hl) r2 hq) fun r s' z => ?_))
  cases r with
  | error e => exact hx pins _ _ e s' J z
  | ok fl =>
    cases fl with
    | ret u => obtain ⟨v, H', J3, rv, rfl, q3⟩ := J.after z; exact ⟨rv, ⟨.ref (s.heap.objs.size + 1), H', J3, rfl, q3⟩⟩
    | next => exact False.elim z
    | brk => exact False.elim z
    | cont => exact False.elim z
theorem pe_makeS {CX : CXT} {k : Nat} {g C : Addr} {fd : FuncData} {ps : List Str} {sp : Sp} {dvs : List V} {ds : List Value} {E : L2.St → XK} {t : TA} (M : Mk X.K C g) (F : FnOk X.prog X.w X.K X.mg X.base CX k g fd ps sp) (hr : Room (k + 1) X.A) (hg : Gl X x) (hm : X.mg x = some (.ref C))
    (hb : Binds X.K fd ps ds) (hd : Vals dvs ds) (hx : ∀ σ, PassesAt CX X σ (E σ)) (ha : PA X (e :: es) t) (hdb : (x == ("__debug__" : Str)) = false) (he : starEach (e :: es) X.env = (false, eval e X.env) :: starEach es X.env) (hpl : (backTo pos (starEach es X.env)).any (·.1) = false) :
    PE X (.Call (.Name x p) (e :: es) [] pos) (tMakeS C sp dvs E t) := by
  refine ⟨fun pins s σ H Q I h => wpAny_Call_Name_kw (ld_glob I hg hm ?_ hdb)⟩
  exact PySem.W.callWith_K (h₀ := X.base) I.ok.mod.kin M.kp (thn (ha.run pos pins s σ H _ I h) fun us s1 ⟨vs, H1, J, r, q⟩ => ⟨J.kIn, run_makeS M F hr hb hd (hx σ) J r q⟩) he hpl
/-- behind __init__: the object is frozen -/
def dMake (n : Str) (dv : List D) (sp : SpM) (R : DTA) : DTE := fun ρ M Q E => R ρ M (fun ds M1 => ∀ x, M1 x = none → sp (.ref x :: (ds ++ dv)) (updM M1 x (.ins n [])) (fun d M2 => d = .non ∧ ∃ fs, M2 x = some (.ins n fs) ∧ Q (.obj n fs) (delM M2 x)) (fun C M2 => E C (delM M2 x))) E
theorem ArgsOk.app {B : Bx} {W : Wd} {ms : List Bool} {vs : List V} {ds : List D} {us : List V} {es : List D} (h : ArgsOk B W ms vs ds) (g : ∀ F, RpAll B F us es) : ArgsOk B W (ms ++ us.map fun _ => false) (vs ++ us) (ds ++ es) := by
  induction h with
  | nil =>
    have : ∀ {us : List V} {es : List D}, RpAll B W.F us es → ArgsOk B W (us.map fun _ => false) us es := fun {us es} q => by
      induction us generalizing es with
      | nil => cases q; exact .nil
      | cons v vs ih =>
        cases q with
        | cons r t => exact .dat r (ih t)
    exact this (g _)
  | dat r _ ih => exact .dat r ih
  | bor r _ ih => exact .bor r ih
theorem de_make {j k : Nat} {ms : List Bool} {dv : List D} {sp : SpM} {R : DTA} (F : MkF (bx X) X.base k x (false :: (ms ++ dv.map fun _ => false)) dv sp) (hr : Room j X.A) (tk : Takes X wx) (hk : k + 1 ≤ j) (ha : DM X wx ms (e :: es) R) (hg : Gl X x := by rfl) (hdb : (x == ("__debug__" : Str)) = false := by decide)
    (he : starEach (e :: es) X.env = (false, eval e X.env) :: starEach es X.env := by rfl) (hpl : (backTo pos (starEach es X.env)).any (·.1) = false := by rfl) : DE X wx (.Call (.Name x p) (e :: es) [] pos) (dMake x dv sp R) := by
  obtain ⟨f, fd, ps, dvs, ds, G, h1, h2, h3, h4, h5⟩ := F.ex
  obtain ⟨t, pa, ra⟩ := ha
  refine ⟨_, pe_makeS (E := WE wx) h2 G (hr.mono hk) hg h1 h3 h4 (fun σ => passAt tk σ) pa hdb he hpl, fun W0 W m σ ρ M Q Qd Ed Re k h1 h2 h3 => ?_⟩
  refine ra W0 W m σ ρ M _ _ Ed Re k h1 (fun ds vs W' m' M' q le k' hv => fun y dx ny ndx ne => ?_) h3
  obtain ⟨ny1, ny2⟩ := cat_new ny
  obtain ⟨nd1, nd2⟩ := cat_new ndx
  have hMy : M' y = none := by
    cases z : M' y with
    | none => rfl
    | some ob => have o1 := k'.ok y; rw [z] at o1; exact absurd ny2 o1.ne
  have k1 := k'.lay (o := .own y) ndx
  have hyW : (W'.lay dx (.own y) (W'.fnone nd1)).H y = none := (upd_ne (Ne.symm ne)).trans ny1
  have k2 := k1.put (a := y) (ob := .ins x []) (o := .ins ((bx X).cl x) dx []) hyW ⟨dx, [], rfl, .nil⟩
  have lq : dvs.map (fun _ => false) = dv.map fun _ => false := by
    have := (h5 W.F).length
    simp only [List.map_const', this]
  have hA := hv.app h5
  rw [lq] at hA
  refine ⟨W'.lay dx (.own y) (W'.fnone nd1), upd m' y (.ins ((bx X).cl x) dx []), updM M' y (.ins x []), .ref y :: (ds ++ dv), _, _, ?_, k2, .dat (.ref y) (hA.le (W'.le_lay nd1)), q y hMy, fun d v W2 m2 M2 q2 le2 mk2 hv2 => ?_, fun C W2 m2 M2 q2 le2 mk2 => ?_⟩
  · rw [← cat_updm hyW]
    exact congrArg (fun z => upd z y _) cat_upd.symm
  · obtain ⟨rfl, fs, e2, q2⟩ := q2
    cases hv2
    obtain ⟨W3, m3, e3, le3, mk3, r3⟩ := mk2.freeze e2
    refine ⟨rfl, ?_⟩
    have := h2 _ (.ref y) W3 m3 _ q2 (((le.trans (W'.le_lay nd1)).trans le2).trans le3) mk3 r3
    rw [e3] at this
    exact this
  · exact h3 C W2 m2 _ q2 ((le.trans (W'.le_lay nd1)).trans le2) (mk2.del y)
/-- C() of a class without __init__ -/
structure Mk0F (B : Bx) (n : Str) : Prop where
  mg : B.mg n = some (.ref (B.cl n))
  ms : PySem.W.makesIn B.K (B.cl n) = true
  ini : PySem.W.findIn B.K (.ref (B.cl n)) "__init__" = some (some (.builtin "object.__init__"))
  kp : PySem.W.keepIn B.K (.ref (B.cl n)) = true
def dMake0 (n : Str) : DTE := fun _ M Q _ => Q (.obj n []) M
theorem pe_make00 {C : Addr} (mk : PySem.W.makesIn X.K C = true) (ini : PySem.W.findIn X.K (.ref C) "__init__" = some (some (.builtin "object.__init__"))) (kp : PySem.W.keepIn X.K (.ref C) = true) (hg : Gl X x) (hm : X.mg x = some (.ref C)) (hdb : (x == ("__debug__" : Str)) = false) :
    PE X (.Call (.Name x p) [] [] pos) (fun σ H Q => ∀ y dx, H y = none → H dx = none → dx ≠ y → Q (.ref y) (upd (upd H dx (.own y)) y (.ins C dx []))) := by
  refine ⟨fun pins s σ H Q I h => wpAny_Call_Name_kw (ld_glob I hg hm ?_ hdb)⟩
  refine PySem.W.callWith_K0 I.kIn kp (wpAny_call (make_map0 I.kIn mk ini (fun self => PySem.W.Looks.of_pure (PySem.W.oi_bind self)) ?_))
  have J := Inv.made (C := C) I
  have hy : ((s.heap.push PySem.W.emptyDict).push (PySem.W.instObj C s.heap.objs.size)).get? (s.heap.objs.size + 1) = some (PySem.W.instObj C s.heap.objs.size) := by
    have := Heap.get?_push_size (s.heap.push PySem.W.emptyDict) (o := PySem.W.instObj C s.heap.objs.size) rfl
    rwa [Heap.size_push] at this
  have t2 : PySem.W.Looks (model X.prog X.w) ((s.heap.push PySem.W.emptyDict).push (PySem.W.instObj C s.heap.objs.size)) (isInstance (.ref (s.heap.objs.size + 1)) (.type "object")) true := (NwA.type_at hy rfl).andThen (PySem.W.looks_mroIn J.kIn (mro_obj mk))
  refine codeAny_call_builtin PySem.W.oi_plain PySem.W.entry_oi (@PySem.W.check_slot _ _ _ _ "object.__init__" "object" "__init__" (.ref (s.heap.objs.size + 1)) [] [] _ PySem.W.oi_kind PySem.W.oi_split t2 (NwA.oi_args_any _ _ _) ?_)
  rw [PySem.W.oi_run]
  exact wpAny_pure ⟨rfl, .ref (s.heap.objs.size + 1), _, J, rfl, h _ _ (I.hok.fresh (Nat.le_succ _)) (I.hok.fresh (Nat.le_refl _)) (Nat.ne_of_lt (Nat.lt_succ_self _))⟩
theorem de_make0 (h : Mk0F (bx X) x) (hg : Gl X x := by rfl) (hdb : (x == ("__debug__" : Str)) = false := by decide) : DE X wx (.Call (.Name x p) [] [] pos) (dMake0 x) := by
  refine ⟨_, pe_make00 h.ms h.ini h.kp hg h.mg hdb, fun W0 W m σ ρ M Q Qd Ed Re k h1 h2 h3 => fun y dx ny ndx ne => ?_⟩
  obtain ⟨nd1, nd2⟩ := cat_new ndx
  have k1 := k.lay (o := .own y) ndx
  have e1 : upd (cat W.H m) dx (.own y) = cat (W.lay dx (.own y) (W.fnone nd1)).H m := cat_upd
  have ny' : cat (W.lay dx (.own y) (W.fnone nd1)).H m y = none := by rw [← e1, upd_ne (Ne.symm ne)]; exact ny
  rw [e1]
  exact cat_q (P := Q (.ref y)) (h2 _ (.ref y) ((W.lay dx (.own y) (W.fnone nd1)).new y _) m M h1 ((W.le_lay nd1).trans (Wd.le_new _ (cat_new ny').1)) (k1.new ny') (.obj (upd_same (H := (W.lay dx (.own y) (W.fnone nd1)).F)) .nil))

/-! ### methods -/
structure MtF (B : Bx) (base : Heap) (k : Nat) (n m : Str) (ms : List Bool) (sp : SpM) : Prop where
  ex : ∃ f fd ps, FnB B base k f fd ps ms sp ∧ Cls B.K (B.cl n) ∧ Meth B.K (B.cl n) m f ∧ Binds B.K fd ps []
theorem MtF.up {B : Bx} {base : Heap} {k j : Nat} {n m : Str} {ms : List Bool} {sp : SpM} (h : MtF B base k n m ms sp) (hk : k ≤ j) : MtF B base j n m ms sp := by
  obtain ⟨f, fd, ps, F, h1, h2, h3⟩ := h.ex
  exact ⟨f, fd, ps, F.mono hk, h1, h2, h3⟩
theorem MkF.up {B : Bx} {base : Heap} {k j : Nat} {n : Str} {ms : List Bool} {dv : List D} {sp : SpM} (h : MkF B base k n ms dv sp) (hk : k ≤ j) : MkF B base j n ms dv sp := by
  obtain ⟨f, fd, ps, dvs, ds, F, r⟩ := h.ex
  exact ⟨f, fd, ps, dvs, ds, F.mono hk, r⟩
abbrev Mts (B : Bx) (base : Heap) (k : Nat) (m : Str) (ms : List Bool) (tb : List (Str × SpM)) : Prop := ∀ n sp, tb.lookup n = some sp → MtF B base k n m ms sp
theorem mt_nil {B : Bx} {base : Heap} {k : Nat} {m : Str} {ms : List Bool} : Mts B base k m ms [] := fun _ _ h => by cases h
theorem mt_cons {B : Bx} {base : Heap} {k : Nat} {m n : Str} {ms : List Bool} {sp : SpM} {tb : List (Str × SpM)} (h : MtF B base k n m ms sp) (t : Mts B base k m ms tb) : Mts B base k m ms ((n, sp) :: tb) := fun n' sp' e => by
  rw [List.lookup_cons] at e
  cases q : n' == n with
  | true => rw [q] at e; cases e; rw [eq_of_beq q]; exact h
  | false => rw [q] at e; exact t n' sp' e
def methD (m : Str) (tb : List (Str × SpM)) (d : D) (K : SpM → Prop) : Prop := match d with
  | .obj n fs => fs.lookup m = none ∧ ∃ sp, tb.lookup n = some sp ∧ K sp
  | _ => False
def dMeth (m : Str) (tb : List (Str × SpM)) (T : DTE) (R : DTA) : DTE := fun ρ M Q E => T ρ M (fun d M1 => methD m tb (drf M1 d) fun sp => R ρ M1 (fun ds M2 => sp (d :: ds) M2 Q E) E) E
def tMethS (X : Cx) (m : Str) (E : L2.St → XK) (k : Nat) (ta : TE) (t : TA) : TE := fun σ H Q => ta σ H fun x H1 => ∃ a C dx fs f fd ps sp, x = .ref a ∧ H1 a = some (.ins C dx fs) ∧ fs.lookup m = none ∧ Cls X.K C ∧ Meth X.K C m f ∧ FnOk X.prog X.w X.K X.mg X.base (L2.CX X.prog X.w) k f fd ps sp ∧ Binds X.K fd ps [] ∧ t σ H1 fun vs H2 => sp (.ref a :: vs) H2 Q (E σ)
theorem pe_methS {m : Str} {k : Nat} {E : L2.St → XK} {pl : Sem Bool} {ta : TE} {t : TA} (he : PE X o ta) (hr : Room k X.A) (hx : ∀ σ, PassesAt (L2.CX X.prog X.w) X σ (E σ)) (ha : PA X (e :: es) t)
    (hst : starEach (e :: es) X.env = (false, eval e X.env) :: starEach es X.env) (hpl : (backTo pos (starEach es X.env)).any (·.1) = false)
    (ht : eval (.Call (.Attribute o m apos) (e :: es) [] pos) X.env = (do
      let ov ← eval o X.env
      standAt apos.atName
      let (f, first) ← holding [ov] (getMethod ov m pl)
      callWith pos f first (backTo pos (starEach (e :: es) X.env)) (backToKw pos (keywordEach [] X.env)))) : PE X (.Call (.Attribute o m apos) (e :: es) [] pos) (tMethS X m E k ta t) := by
  refine ⟨fun pins s σ H Q I h => PySem.W.methodCall_KW (pl := pl) (thn (he.run pins s σ H _ I h) fun u s1 ⟨x, H1, J, rx, a, C, dx, fs, f, fd, ps, sp, ex, ea, l, c, hm, F, hb, q⟩ => ?_) ht⟩
  subst ex
  cases (show u = Value.ref a from rx)
  exact getmeth_ok J ea c hm l (PySem.W.callWith_K (first := [.ref a]) (h₀ := X.base) I.ok.mod.kin hm.kp (thn (ha.run pos pins s1 σ H1 _ J q) fun us s2 ⟨vs, H2, J2, r, q2⟩ => ⟨J2.kIn, run_fnS (us := .ref a :: us) (vs := .ref a :: vs) F hr hb (hx σ) J2 (.cons rfl r) q2⟩) hst hpl)
theorem pe_methS0 {m : Str} {k : Nat} {E : L2.St → XK} {pl : Sem Bool} {ta : TE} (he : PE X o ta) (hr : Room k X.A) (hx : ∀ σ, PassesAt (L2.CX X.prog X.w) X σ (E σ))
    (ht : eval (.Call (.Attribute o m apos) [] [] pos) X.env = (do
      let ov ← eval o X.env
      standAt apos.atName
      let (f, first) ← holding [ov] (getMethod ov m pl)
      callWith pos f first (backTo pos (starEach [] X.env)) (backToKw pos (keywordEach [] X.env)))) : PE X (.Call (.Attribute o m apos) [] [] pos) (tMethS X m E k ta tNil) := by
  refine ⟨fun pins s σ H Q I h => PySem.W.methodCall_KW (pl := pl) (thn (he.run pins s σ H _ I h) fun u s1 ⟨x, H1, J, rx, a, C, dx, fs, f, fd, ps, sp, ex, ea, l, c, hm, F, hb, q⟩ => ?_) ht⟩
  subst ex
  cases (show u = Value.ref a from rx)
  exact getmeth_ok J ea c hm l (PySem.W.callWith_K0 (first := [.ref a]) J.kIn hm.kp (run_fnS (us := [.ref a]) (vs := [.ref a]) F hr hb (hx σ) J (.cons rfl .nil) q))
theorem rf_meth {m : Str} {k : Nat} {ms : List Bool} {tb : List (Str × SpM)} {ta : TE} {t : TA} {R : DTA} (hm : Mts (bx X) X.base k m (false :: ms) tb) (ha : RfE (bx X) wx ta T) (hr : RfM (bx X) wx ms t R) : RfE (bx X) wx (tMethS X m (WE wx) k ta t) (dMeth m tb T R) := fun W0 W mm σ ρ M Q Qd Ed Re mk h1 h2 h3 => by
  refine ha W0 W mm σ ρ M _ _ Ed Re mk h1 (fun d v W' m' M' q le k' hv => ?_) h3
  have hv' := hv.rd.drf k'
  cases z : Z.drf M' d with
  | obj n fs =>
    rw [z] at hv' q
    obtain ⟨a, dx, fv, rfl, h4, h5⟩ := hv'
    obtain ⟨hl, sp, hs, q⟩ := q
    obtain ⟨f, fd, ps, F, c1, c2, c3⟩ := (hm n sp hs).ex
    refine ⟨a, _, dx, fv, f, fd, ps, _, rfl, h4, h5.none hl, c1, c2, F, c3, ?_⟩
    refine hr W0 W' m' σ ρ M' _ _ Ed (Re.mono le) k' q (fun ds vs W2 m2 M2 q2 le2 k2 hv2 => ?_) (h3.up le)
    exact ⟨W2, m2, M2, d :: ds, Qd, Ed, rfl, k2, .dat (hv.mono le2.f) hv2, q2, fun d3 v3 W3 m3 M3 q3 le3 k3 hv3 => h2 d3 v3 W3 m3 M3 q3 ((le.trans le2).trans le3) k3 hv3, fun C W3 m3 M3 q3 le3 k3 => h3 C W3 m3 M3 q3 ((le.trans le2).trans le3) k3⟩
  | _ => rw [z] at q; exact q.elim
theorem de_meth {m : Str} {j k : Nat} {ms : List Bool} {tb : List (Str × SpM)} {R : DTA} {pl : Sem Bool} (hm : Mts (bx X) X.base k m (false :: ms) tb) (hr : Room j X.A) (tk : Takes X wx) (hk : k ≤ j) (ho : DE X wx o T) (ha : DM X wx ms (e :: es) R)
    (hst : starEach (e :: es) X.env = (false, eval e X.env) :: starEach es X.env := by rfl) (hpl : (backTo pos (starEach es X.env)).any (·.1) = false := by rfl)
    (ht : eval (.Call (.Attribute o m apos) (e :: es) [] pos) X.env = (do
      let ov ← eval o X.env
      standAt apos.atName
      let (f, first) ← holding [ov] (getMethod ov m pl)
      callWith pos f first (backTo pos (starEach (e :: es) X.env)) (backToKw pos (keywordEach [] X.env))) := by rfl) : DE X wx (.Call (.Attribute o m apos) (e :: es) [] pos) (dMeth m tb T R) := by
  obtain ⟨ta, po, ro⟩ := ho
  obtain ⟨t, pa, ra⟩ := ha
  exact ⟨_, pe_methS po (hr.mono hk) (fun σ => passAt tk σ) pa hst hpl ht, rf_meth hm ro ra⟩
theorem de_meth0 {m : Str} {j k : Nat} {tb : List (Str × SpM)} {pl : Sem Bool} (hm : Mts (bx X) X.base k m [false] tb) (hr : Room j X.A) (tk : Takes X wx) (hk : k ≤ j) (ho : DE X wx o T)
    (ht : eval (.Call (.Attribute o m apos) [] [] pos) X.env = (do
      let ov ← eval o X.env
      standAt apos.atName
      let (f, first) ← holding [ov] (getMethod ov m pl)
      callWith pos f first (backTo pos (starEach [] X.env)) (backToKw pos (keywordEach [] X.env))) := by rfl) : DE X wx (.Call (.Attribute o m apos) [] [] pos) (dMeth m tb T dNil) := by
  obtain ⟨ta, po, ro⟩ := ho
  obtain ⟨t, pa, ra⟩ := (dm_nil (X := X) (wx := wx))
  refine ⟨_, pe_methS0 po (hr.mono hk) (fun σ => passAt tk σ) ht, rf_meth hm ro ?_⟩
  exact fun W0 W m σ ρ M Q Qd Ed R k h1 h2 h3 => h2 [] [] W m M h1 (Wd.le.refl W) k .nil
end
end Z

/-! The facts of the module's text that the walks lean on, read by a hook. -/
namespace Z
open PySem PySem.Spec PyProof.Rows L2
abbrev Fz := PySem.W.Frag → Bool
def obsK (fa : List He.Fa) (fn : List He.DefD) (ez : List Fz) (K : PySem.W.Frag) : He.AlD × Bool := (He.obsD fa fn K, ez.all fun e => e K)
def obsZ (n : Nat) (fa : List He.Fa) (fn : List He.DefD) (ez : List Fz) (g : Addr → Option Obj) : He.AlD × Bool := obsK fa fn ez (He.frG g (He.asD g n))
structure SaysZ (fa : List He.Fa) (fn : List He.DefD) (ez : List Fz) (K : PySem.W.Frag) : Prop where
  d : He.SaysD fa fn K
  z : (ez.all fun e => e K) = true
def hookZ (n : Nat) (fa : List He.Fa) (fn : List He.DefD) (ez : List Fz) : PySem.W.Hook where
  α := He.AlD × Bool
  obs := fun s => obsZ n fa fn ez s.heap.get?
  val := fun _ => (He.valD fn, true)
  says := fun _ h => ∃ K : PySem.W.Frag, K.In h ∧ SaysZ fa fn ez K
  of := fun _ _ e => ⟨_, He.frG_in, congrArg Prod.fst e, congrArg Prod.snd e⟩
  keeps := fun _ _ _ ⟨K, hK, c⟩ k => ⟨K, PySem.W.Frag.In.keeps hK k, c⟩
theorem obsZ_eq {n : Nat} {fa : List He.Fa} {fn : List He.DefD} {ez : List Fz} {g : Addr → Option Obj} {s : Shared} (h : ∀ a, g a = s.heap.get? a) : obsZ n fa fn ez g = (hookZ n fa fn ez).obs s := by
  have e : g = s.heap.get? := funext h
  rw [e] <;> rfl
theorem SaysZ.e {fa : List He.Fa} {fn : List He.DefD} {ez : List Fz} {K : PySem.W.Frag} (c : SaysZ fa fn ez K) (i : Nat) {f : Fz} (h : ez[i]? = some f := by rfl) : f K = true := List.all_eq_true.mp c.z f (List.mem_of_getElem? h)

/-! ### the facts -/
def gB (n : Str) : Fz := fun K => (He.Fa.glo n).ok K
section
variable {P : Program} {w : World} {K : PySem.W.Frag} {h : Heap} {mg : Str → Option Value}
theorem gB_mg (KX : K.In h) (G : h.Ns mainGlobals mg) {n : Str} (c : gB n K = true) : (⟨P, w, K, mg⟩ : Bx).mg n = some (.ref ((⟨P, w, K, mg⟩ : Bx).cl n)) := by
  have e : mg n = some (.ref (He.ga K n)) := He.glo_ok KX G c
  have e2 : (⟨P, w, K, mg⟩ : Bx).cl n = He.ga K n := cl_of e
  rw [e2]; exact e
theorem gB_cl (KX : K.In h) (G : h.Ns mainGlobals mg) {n : Str} (c : gB n K = true) : (⟨P, w, K, mg⟩ : Bx).cl n = He.ga K n := cl_of (He.glo_ok KX G c)
def clB (n : Str) : Fz := fun K => gB n K && (He.Fa.cls n).ok K
def fldB (f : Str) (cs : List Str) : Fz := fun K => cs.all fun n => gB n K && ((He.Fa.cls n).ok K && (He.Fa.noat n f).ok K)
theorem fldB_ok (KX : K.In h) (G : h.Ns mainGlobals mg) {f : Str} {cs : List Str} (c : fldB f cs K = true) : FldF ⟨P, w, K, mg⟩ f cs := fun n hn => by
  obtain ⟨c1, c2⟩ := He.ba (List.all_eq_true.mp c n hn)
  obtain ⟨c2, c3⟩ := He.ba c2
  rw [gB_cl KX G c1]
  exact ⟨He.cls_ok c2, He.noat_ok c3⟩
def xcB (n : Str) : Fz := fun K => gB n K && (He.Fa.exc n).ok K
theorem xcB_ok (KX : K.In h) (G : h.Ns mainGlobals mg) {n : Str} (c : xcB n K = true) : XcF ⟨P, w, K, mg⟩ n := by
  obtain ⟨c1, c2⟩ := He.ba c
  exact XcF.of (He.glo_ok KX G c1) (He.exc_ok c2)
def excB (x : Str) (yes no : List Str) : Fz := fun K => gB x K && ((yes.all fun C => gB C K && (He.Fa.exm C x true).ok K) && no.all fun C => gB C K && (He.Fa.exm C x false).ok K)
theorem excB_ok (KX : K.In h) (G : h.Ns mainGlobals mg) {x : Str} {yes no : List Str} (c : excB x yes no K = true) : ExcF ⟨P, w, K, mg⟩ x yes no := by
  obtain ⟨c1, c2⟩ := He.ba c
  obtain ⟨c2, c3⟩ := He.ba c2
  refine ⟨gB_mg KX G c1, fun C hC => ?_, fun C hC => ?_⟩
  · obtain ⟨d1, d2⟩ := He.ba (List.all_eq_true.mp c2 C hC)
    rw [gB_cl KX G d1, gB_cl KX G c1]; exact He.exm_ok d2
  · obtain ⟨d1, d2⟩ := He.ba (List.all_eq_true.mp c3 C hC)
    rw [gB_cl KX G d1, gB_cl KX G c1]; exact He.exm_ok d2
def mk0B (n : Str) : Fz := fun K => gB n K && (PySem.W.makesIn K (He.ga K n) && (He.eqO (PySem.W.findIn K (.ref (He.ga K n)) "__init__") (some (some (.builtin "object.__init__"))) && PySem.W.keepIn K (.ref (He.ga K n))))
theorem mk0B_ok (KX : K.In h) (G : h.Ns mainGlobals mg) {n : Str} (c : mk0B n K = true) : Mk0F ⟨P, w, K, mg⟩ n := by
  obtain ⟨c1, c2⟩ := He.ba c
  obtain ⟨c2, c3⟩ := He.ba c2
  obtain ⟨c3, c4⟩ := He.ba c3
  have e := gB_cl (P := P) (w := w) KX G c1
  refine ⟨gB_mg KX G c1, ?_, ?_, ?_⟩ <;> rw [e]
  · exact c2
  · exact He.eqO_ok c3
  · exact c4
def excCB (C : Addr) : Fz := fun K => He.eqO (PySem.W.findIn K (.ref C) "__getattribute__") (some (some (.builtin "BaseException.__getattribute__"))) && (He.eqO (PySem.W.findIn K (.ref C) "__getattr__") (some none) &&
  (decide (PySem.W.subIn K (.ref C) (.type "BaseException") = some true) && (PySem.W.hasDictIn K C && (He.eqO (PySem.W.findIn K (.ref C) "__class__") (some (some (.builtin "object.__class__"))) &&
  (He.eqO (PySem.W.specialIn K (.builtin "object.__class__") "__get__") (some (some (.builtin "getset_descriptor.__get__"))) && (decide (PySem.W.takesIn K (.builtin "object.__class__") = some true) && decide (PySem.W.mroIn K C (.type "object") = some true)))))))
theorem excCB_ok {C : Addr} (c : excCB C K = true) : ExcC K C := by
  obtain ⟨c1, c⟩ := He.ba c
  obtain ⟨c2, c⟩ := He.ba c
  obtain ⟨c3, c⟩ := He.ba c
  obtain ⟨c4, c⟩ := He.ba c
  obtain ⟨c5, c⟩ := He.ba c
  obtain ⟨c6, c⟩ := He.ba c
  obtain ⟨c7, c8⟩ := He.ba c
  exact ⟨He.eqO_ok c1, He.eqO_ok c2, of_decide_eq_true c3, c4, He.eqO_ok c5, He.eqO_ok c6, of_decide_eq_true c7, of_decide_eq_true c8⟩
def ownCB (n : Str) : Fz := fun K => (He.Fa.cls n).ok K && (He.eqO (PySem.W.findIn K (.ref (He.ga K n)) "__class__") (some (some (.builtin "object.__class__"))) &&
  (He.eqO (PySem.W.specialIn K (.builtin "object.__class__") "__get__") (some (some (.builtin "getset_descriptor.__get__"))) && (decide (PySem.W.takesIn K (.builtin "object.__class__") = some true) && decide (PySem.W.mroIn K (He.ga K n) (.type "object") = some true))))
theorem ownCB_ok {n : Str} (c : ownCB n K = true) : OwnC K (He.ga K n) := by
  obtain ⟨c1, c⟩ := He.ba c
  obtain ⟨c5, c⟩ := He.ba c
  obtain ⟨c6, c⟩ := He.ba c
  obtain ⟨c7, c8⟩ := He.ba c
  exact ⟨He.cls_ok c1, He.eqO_ok c5, He.eqO_ok c6, of_decide_eq_true c7, of_decide_eq_true c8⟩
def clK (K : PySem.W.Frag) : D → Value
  | .cls n => .ref (He.ga K n)
  | .ty n => .type n
  | _ => .none
def clOk (K : PySem.W.Frag) : D → Bool
  | .cls n => gB n K
  | .ty _ => true
  | _ => false
theorem clK_eq (KX : K.In h) (G : h.Ns mainGlobals mg) : ∀ {cs : List D}, (∀ c ∈ cs, clOk K c = true) → cs.map (clsV ⟨P, w, K, mg⟩) = cs.map (clK K)
  | [], _ => rfl
  | c :: cs, hc => by
    rw [List.map_cons, List.map_cons, clK_eq KX G fun d hd => hc d (List.mem_cons_of_mem _ hd)]
    have q := hc c List.mem_cons_self
    cases c <;> first | cases q | skip
    · rfl
    · show Value.ref ((⟨P, w, K, mg⟩ : Bx).cl _) :: _ = _
      rw [gB_cl KX G q]; rfl
def isB (cs : List D) (bs : List (String × Bool)) (exs objs : List (Str × Bool)) : Fz := fun K => (cs.all fun c => clOk K c) && ((bs.all fun p => decide (PySem.W.kitAny K (.type p.1) (cs.map (clK K)) = some p.2)) &&
  ((exs.all fun p => gB p.1 K && (excCB (He.ga K p.1) K && decide (PySem.W.kitAny K (.ref (He.ga K p.1)) (cs.map (clK K)) = some p.2))) && objs.all fun p => gB p.1 K && (ownCB p.1 K && decide (PySem.W.kitAny K (.ref (He.ga K p.1)) (cs.map (clK K)) = some p.2))))
theorem isB_ok (KX : K.In h) (G : h.Ns mainGlobals mg) {cs : List D} {bs : List (String × Bool)} {exs objs : List (Str × Bool)} (c : isB cs bs exs objs K = true) : IsF ⟨P, w, K, mg⟩ cs bs exs objs := by
  obtain ⟨c1, c⟩ := He.ba c
  obtain ⟨c2, c⟩ := He.ba c
  obtain ⟨c3, c4⟩ := He.ba c
  have hc : ∀ d ∈ cs, clOk K d = true := List.all_eq_true.mp c1
  have e := clK_eq (P := P) (w := w) KX G hc
  refine ⟨fun d hd => ?_, fun p hp => ?_, fun p hp => ?_, fun p hp => ?_⟩
  · have q := hc d hd
    cases d <;> first | rfl | cases q
  · rw [e]; exact of_decide_eq_true (List.all_eq_true.mp c2 p hp)
  · obtain ⟨d1, d2⟩ := He.ba (List.all_eq_true.mp c3 p hp)
    obtain ⟨d2, d3⟩ := He.ba d2
    rw [gB_cl KX G d1, e]
    exact ⟨excCB_ok d2, of_decide_eq_true d3⟩
  · obtain ⟨d1, d2⟩ := He.ba (List.all_eq_true.mp c4 p hp)
    obtain ⟨d2, d3⟩ := He.ba d2
    rw [gB_cl KX G d1, e]
    exact ⟨ownCB_ok d2, of_decide_eq_true d3⟩
/-- the method m of n is the def of c -/
def mtB (n m c : Str) : Fz := fun K => gB n K && ((He.Fa.cls n).ok K && ((He.Fa.meth n m).ok K && decide (He.ma K (He.ga K n) m = He.ma K (He.ga K c) m)))
theorem mtB_ok (KX : K.In h) (G : h.Ns mainGlobals mg) {n m c : Str} (q : mtB n m c K = true) : Cls K ((⟨P, w, K, mg⟩ : Bx).cl n) ∧ Meth K ((⟨P, w, K, mg⟩ : Bx).cl n) m (He.ma K (He.ga K c) m) := by
  obtain ⟨c1, q⟩ := He.ba q
  obtain ⟨c2, q⟩ := He.ba q
  obtain ⟨c3, c4⟩ := He.ba q
  rw [gB_cl KX G c1, ← of_decide_eq_true c4]
  exact ⟨He.cls_ok c2, He.meth_ok c3⟩
def mkB (n : Str) : Fz := fun K => gB n K && (He.Fa.mkr n).ok K
theorem mkB_ok (KX : K.In h) (G : h.Ns mainGlobals mg) {n : Str} (q : mkB n K = true) : Mk K ((⟨P, w, K, mg⟩ : Bx).cl n) (He.ma K (He.ga K n) "__init__") := by
  obtain ⟨c1, c2⟩ := He.ba q
  rw [gB_cl KX G c1]
  exact He.mkr_ok c2
theorem MtF.mk' {base : Heap} {k : Nat} {n m c : Str} {fd : FuncData} {ps : List Str} {ms : List Bool} {sp : SpM} (KX : K.In h) (G : h.Ns mainGlobals mg) (q : mtB n m c K = true) (hb : Binds K fd ps []) (F : FnB ⟨P, w, K, mg⟩ base k (He.ma K (He.ga K c) m) fd ps ms sp) : MtF ⟨P, w, K, mg⟩ base k n m ms sp :=
  have e := mtB_ok (P := P) (w := w) KX G q
  ⟨_, fd, ps, F, e.1, e.2, hb⟩
theorem MkF.mk' {base : Heap} {k : Nat} {n : Str} {fd : FuncData} {ps : List Str} {ms : List Bool} {sp : SpM} {dvs : List V} {dv : List D} (KX : K.In h) (G : h.Ns mainGlobals mg) (q : mkB n K = true) (hb : ∃ ds, Vals dvs ds ∧ Binds K fd ps ds) (hd : ∀ F, RpAll ⟨P, w, K, mg⟩ F dvs dv)
    (F : FnB ⟨P, w, K, mg⟩ base k (He.ma K (He.ga K n) "__init__") fd ps ms sp) : MkF ⟨P, w, K, mg⟩ base k n ms dv sp := by
  obtain ⟨ds, h1, h2⟩ := hb
  exact ⟨_, fd, ps, dvs, ds, F, gB_mg KX G (He.ba q).1, mkB_ok KX G q, h2, h1, hd⟩
end
end Z

/-! More built-ins. -/
namespace Z
open PySem PySem.Spec PyProof.Rows L2
open Evl (Ex)
/-! ### text * int -/
def repS (z : Str) (n : Nat) : Str := ⟨(List.replicate n z.cps.toList).flatten.toArray⟩
theorem fold_rep (a : Array Nat) : ∀ (n : Nat) (acc : Array Nat), (List.replicate n a).foldl (· ++ ·) acc = acc ++ (List.replicate n a.toList).flatten.toArray
  | 0, acc => by simp
  | n + 1, acc => by
    rw [List.replicate_succ, List.foldl_cons, fold_rep a n, List.replicate_succ, List.flatten_cons]
    apply Array.ext'
    simp
theorem repS_fold (z : Str) (n : Nat) : (⟨(List.replicate n z.cps).foldl (· ++ ·) #[]⟩ : Str) = repS z n := by
  unfold repS
  rw [fold_rep]
  simp
theorem repS_one (z : Str) : repS z 1 = z := by
  obtain ⟨c⟩ := z
  simp [repS]
theorem repS_nil (z : Str) (n : Nat) (h : z.length = 0) : repS z n = z := by
  obtain ⟨c⟩ := z
  have h : c.size = 0 := h
  have : c = #[] := Array.eq_empty_of_size_eq_zero h
  subst this
  simp [repS]
theorem rep_len (l : List Nat) : ∀ n : Nat, (List.replicate n l).flatten.length = n * l.length
  | 0 => by simp
  | n + 1 => by rw [List.replicate_succ, List.flatten_cons, List.length_append, rep_len l n]; rw [Nat.succ_mul, Nat.add_comm]
theorem repS_len (z : Str) (n : Nat) : (repS z n).length = n * z.length := by
  obtain ⟨c⟩ := z
  show (List.replicate n c.toList).flatten.toArray.size = n * c.size
  rw [List.size_toArray, rep_len]
  simp
def rSMul : R2 := fun x y H Q => ∃ z n, x = .str z ∧ y = .int n ∧ 0 ≤ n ∧ n < 2 ^ 30 ∧ z.length * n.toNat ≤ sizeLine ∧ Q (.str (repS z n.toNat)) H
section
variable {X : Cx}
theorem op_smul : OpR X (binaryOp .Mult) rSMul := by
  intro pins s σ H x y v u Q I rx ry h
  obtain ⟨z, n, rfl, rfl, h0, h1, hz, q⟩ := h
  obtain ⟨t, rfl⟩ := rx
  obtain ⟨t2, rfl⟩ := ry
  have hl : Builtin.Str.tooLong (z.length * n.toNat) = false := by
    unfold Builtin.Str.tooLong
    exact decide_eq_false (Nat.not_lt.mpr hz)
  refine PySem.P.mul_str (by
      have a1 : ¬ n < -(2 ^ 63 : Int) := by omega
      have a2 : ¬ n ≥ 2 ^ 63 := by omega
      rw [decide_eq_false a1, decide_eq_false a2]; rfl) (fun h2 _ => ?_) (fun _ _ => hl) ?_
  · have e : n = (n.toNat : Int) := by omega
    have hs : (sizeLine : Nat) ≤ 2 ^ 40 := by decide
    have h3 : (z.length : Int) * n ≤ 2 ^ 40 := by
      rw [e]
      have : ((z.length * n.toNat : Nat) : Int) ≤ 2 ^ 40 := by omega
      rwa [Int.natCast_mul] at this
    have : (z.length : Int) ≤ (2 ^ 63 - 1) / n := (Int.le_ediv_iff_mul_le (by omega)).mpr (by omega)
    omega
  · split
    · rename_i h2
      have e : n.toNat = 0 := by omega
      rw [e] at q
      exact ⟨by decide, ⟨.str _, H, I.tok _, ⟨_, rfl⟩, q⟩⟩
    · split
      · rename_i h2 h3
        have e : repS z n.toNat = z := by
          rw [Bool.or_eq_true] at h3
          rcases h3 with h3 | h3
          · have := eq_of_beq h3
            subst this
            exact repS_one z
          · exact repS_nil z _ (eq_of_beq h3)
        rw [e] at q
        exact ⟨.str z, H, I, ⟨t, rfl⟩, q⟩
      · rw [repS_fold]
        refine ⟨?_, ⟨.str _, H, I.tok _, ⟨_, rfl⟩, q⟩⟩
        rw [repS_len, Nat.mul_comm]
        exact hz
end
/-- *: ints, a text and an int -/
def oMulA (x y : D) (Q : D → Prop) : Prop := match x, y with
  | .int i, .int j => Sm i ∧ Sm j ∧ Q (.int (i * j))
  | .str z, .int n => 0 ≤ n ∧ n < 2 ^ 30 ∧ z.length * n.toNat ≤ sizeLine ∧ Q (.str (repS z n.toNat))
  | _, _ => False
section
variable {X : Cx} {wx : WX} {e a b ob ce : Expr} {Ta Tb To T : DTE} {pos : Pos}
theorem rf_mulA {B : Bx} : RfO B (fun x y H Q => rI CMulW (fun i j => .int (i * j)) x y H Q ∨ rSMul x y H Q) oMulA := by
  intro W m M x y dx dy Q Qd mk rx ry h k
  unfold oMulA at h
  split at h
  · cases rx
    cases ry
    refine .inl ⟨_, _, rfl, rfl, ?_, k _ _ W h.2.2 (Wd.le.refl W) mk (.int _)⟩
    have h1 := h.1.log
    have h2 := h.2.1.log
    unfold CMulW
    omega
  · cases rx
    cases ry
    exact .inr ⟨_, _, rfl, rfl, h.1, h.2.1, h.2.2.1, k _ _ W h.2.2.2 (Wd.le.refl W) mk (.str _)⟩
  · exact h.elim
theorem de_mulA (ha : DR X wx a Ta) (hb : DR X wx b Tb) : DE X wx (.BinOp a .Mult b pos) (dOp oMulA Ta Tb) := de_op (op_mulW.or op_smul) rf_mulA ha hb
/-! ### methods of texts without arguments -/
def dSM0 (o : SO) (To : DTE) : DTE := fun ρ M Q E => To ρ M (fun x M1 => onStr x fun z => o z [] fun d => Q d M1) E
theorem de_sm0 {r : V → List V → Hp → VK → Prop} {o : SO} (pb : ∀ {to}, PE X ob to → PE X ce (tBM0 X.K "str" r to)) (hr : RfSM (bx X) r o) (ho : DR X wx ob To) : DE X wx ce (dSM0 o To) := by
  obtain ⟨to, po, ro⟩ := ho
  refine ⟨_, pb po, fun W0 W m σ ρ M Q Qd Ed Re k h1 h2 h3 => ro W0 W m σ ρ M _ _ Ed Re k h1 (fun d v W' m' M' q le k' hv => ?_) h3⟩
  cases d with
  | str z =>
    cases hv
    exact ⟨rfl, hr W' m' M' z [] [] Q _ k' .nil q fun d3 v3 W3 q3 le3 k3 r3 => h2 d3 v3 W3 m' M' q3 (le.trans le3) k3 r3⟩
  | _ => exact q.elim
theorem rf_s0 {B : Bx} {r : V → List V → Hp → VK → Prop} {C : Str → Prop} {g : Str → V} {gd : Str → D} (hr : ∀ a H (Q : VK), C a → Q (g a) H → r (.str a) [] H Q) (hg : ∀ a F, Rp B F (g a) (gd a)) :
    RfSM B r (fun x ds Q => match ds with | [] => C x ∧ Q (gd x) | _ => False) := by
  intro W m M x us ds Q Qd mk hu h k
  split at h
  · cases hu
    exact hr _ _ _ h.1 (k _ _ W h.2 (Wd.le.refl W) mk (hg _ _))
  · exact h.elim
def soUpper : SO := fun x ds Q => match ds with | [] => x.length ≤ 5592405 ∧ Q (.str (Txt.upper x)) | _ => False
theorem rf_upper {B : Bx} : RfSM B (fun x xs H Q => ∃ a, x = .str a ∧ xs = [] ∧ a.length ≤ 5592405 ∧ Q (.str (Txt.upper a)) H) soUpper := rf_s0 (C := fun a => a.length ≤ 5592405) (fun a H Q c q => ⟨a, rfl, rfl, c, q⟩) fun _ _ => .str _
def soLower : SO := fun x ds Q => match ds with | [] => x.length ≤ 5592405 ∧ Q (.str (Txt.lower x)) | _ => False
theorem rf_lower {B : Bx} : RfSM B (fun x xs H Q => ∃ a, x = .str a ∧ xs = [] ∧ a.length ≤ 5592405 ∧ Q (.str (Txt.lower a)) H) soLower := rf_s0 (C := fun a => a.length ≤ 5592405) (fun a H Q c q => ⟨a, rfl, rfl, c, q⟩) fun _ _ => .str _
def soIsupper : SO := fun x ds Q => match ds with | [] => True ∧ Q (.bl (Txt.isupper x)) | _ => False
theorem rf_isupper {B : Bx} : RfSM B (fun x xs H Q => ∃ a, x = .str a ∧ xs = [] ∧ True ∧ Q (.bl (Txt.isupper a)) H) soIsupper := rf_s0 (C := fun _ => True) (fun a H Q c q => ⟨a, rfl, rfl, c, q⟩) fun _ _ => .bl _
/-! ### list * int -/
def dRepN (T : DTA) (Tb : DTE) : DTA := fun ρ M Q E => T ρ M (fun ds M1 => Tb ρ M1 (fun d M2 => match d with | .int n => 0 ≤ n ∧ n < 2 ^ 30 ∧ ds.length * n.toNat ≤ sizeLine ∧ Q (List.replicate n.toNat ds).flatten M2 | _ => False) E) E
theorem dn_rep {T : DTA} (ha : DN X wx a T) (hb : DE X wx b Tb) : DN X wx (.BinOp a .Mult b pos) (dRepN T Tb) := by
  obtain ⟨ta, pa, ra⟩ := ha
  obtain ⟨tb, pb, rb⟩ := hb
  refine ⟨_, pe_op op_rep pa pb, fun W0 W m σ ρ M Q Qd Ed R k h1 h2 h3 => ?_⟩
  refine ra W0 W m σ ρ M _ _ Ed R k h1 (fun ds p vs W' m' M' q le k' hn hp hf hv => ?_) h3
  refine rb W0 W' m' σ ρ M' _ _ Ed (R.mono le) k' q (fun d v W2 m2 M2 q2 le2 k2 hv2 => ?_) (h3.up le)
  cases d with
  | int n =>
    cases hv2
    obtain ⟨q0, q1, q3, q4⟩ := q2
    refine ⟨p, n, vs, rfl, rfl, cat_some (le2.h _ _ hp), by omega, by omega, by rw [hv.length]; exact q3, fun l hl => ?_⟩
    exact newO (le.trans le2) k2 hl ((hv.mono le2.f).rep _) fun W4 l4 k4 h4 h5 h6 h7 => h2 _ l _ W4 m2 M2 q4 l4 k4 h4 h5 h6 h7
  | _ => exact q2.elim
end
/-! ### a op1 b op2 c op3 d -/
section
variable {X : Cx} {wx : WX} {a b c d : Expr} {ta tb tc td : TE} {Ta Tb Tc Td : DTE} {pos : Pos} {op1 op2 op3 : CmpOp} {r1 r2 r3 : R2} {o1 o2 o3 : OpD}
def tChain3 (r1 r2 r3 : R2) (ta tb tc td : TE) : TE := fun σ H Q => ta σ H fun x H1 => tb σ H1 fun y H2 => r1 x y H2 fun z H3 => ∃ k, z = .bl k ∧
  (if k = true then tc σ H3 fun w H4 => r2 y w H4 fun z2 H5 => ∃ k2, z2 = .bl k2 ∧ (if k2 = true then td σ H5 fun v H6 => r3 w v H6 Q else Q (.bl false) H5) else Q (.bl false) H3)
theorem pe_chain3 (h1 : OpR X (compareOp op1) r1) (h2 : OpR X (compareOp op2) r2) (h3 : OpR X (compareOp op3) r3) (ha : PE X a ta) (hb : PE X b tb) (hc : PE X c tc) (hd : PE X d td) (hm : lastMarks [op1, op2, op3] [b, c, d] = false) :
    PE X (.Compare a [op1, op2, op3] [b, c, d] pos) (tChain3 r1 r2 r3 ta tb tc td) := by
  refine ⟨fun pins s σ H Q I h => Compare_chain (thn (ha.run pins s σ H _ I h) fun v s1 ⟨x, H1, I1, e1, q1⟩ => chain_link (thn (hb.run pins s1 σ H1 _ I1 q1) fun u s2 ⟨y, H2, I2, e2, q2⟩ =>
    thn (h1 pins s2 σ H2 x y v u _ I2 e1 e2 q2) fun _ s3 ⟨z, H3, I3, e3, k, ek, q3⟩ => ?_)) hm⟩
  subst ek
  cases e3
  refine wpAny_truthy_bool ?_
  cases k with
  | false => exact ite_ff ⟨.bl false, H3, I3, rfl, q3⟩
  | true =>
    refine ite_tt (chain_link (thn (hc.run pins s3 σ H3 _ I3 q3) fun w s4 ⟨z4, H4, I4, e4, q4⟩ => thn (h2 pins s4 σ H4 y z4 u w _ I4 e2 e4 q4) fun _ s5 ⟨z5, H5, I5, e5, k2, ek2, q5⟩ => ?_))
    subst ek2
    cases e5
    refine wpAny_truthy_bool ?_
    cases k2 with
    | false => exact ite_ff ⟨.bl false, H5, I5, rfl, q5⟩
    | true => exact ite_tt (chain_last (thn (hd.run pins s5 σ H5 _ I5 q5) fun v6 s6 ⟨z6, H6, I6, e6, q6⟩ => h3 pins s6 σ H6 z4 z6 w v6 Q I6 e4 e6 q6))
theorem pt_chain3 (h1 : OpR X (compareOp op1) r1) (h2 : OpR X (compareOp op2) r2) (h3 : OpR X (compareOp op3) r3) (ha : PE X a ta) (hb : PE X b tb) (hc : PE X c tc) (hd : PE X d td) (hm : lastMarks [op1, op2, op3] [b, c, d] = false) :
    PT X (.Compare a [op1, op2, op3] [b, c, d] pos) (tTest (tChain3 r1 r2 r3 ta tb tc td)) := by
  refine ⟨fun pins s σ H Q I h => isTrue_chain (thn (ha.run pins s σ H _ I h) fun v s1 ⟨x, H1, I1, e1, q1⟩ => test_link (thn (hb.run pins s1 σ H1 _ I1 q1) fun u s2 ⟨y, H2, I2, e2, q2⟩ =>
    thn (h1 pins s2 σ H2 x y v u _ I2 e1 e2 q2) fun _ s3 ⟨z, H3, I3, e3, k, ek, q3⟩ => ?_)) hm⟩
  subst ek
  cases e3
  refine wpAny_truthy_bool ?_
  cases k with
  | false =>
    obtain ⟨k', e', q'⟩ := q3
    cases e'
    exact ite_ff ⟨H3, I3, q'⟩
  | true =>
    refine ite_tt (test_link (thn (hc.run pins s3 σ H3 _ I3 q3) fun w s4 ⟨z4, H4, I4, e4, q4⟩ => thn (h2 pins s4 σ H4 y z4 u w _ I4 e2 e4 q4) fun _ s5 ⟨z5, H5, I5, e5, k2, ek2, q5⟩ => ?_))
    subst ek2
    cases e5
    refine wpAny_truthy_bool ?_
    cases k2 with
    | false =>
      obtain ⟨k', e', q'⟩ := q5
      cases e'
      exact ite_ff ⟨H5, I5, q'⟩
    | true =>
      refine ite_tt (test_last (thn (hd.run pins s5 σ H5 _ I5 q5) fun v6 s6 ⟨z6, H6, I6, e6, q6⟩ => thn (h3 pins s6 σ H6 z4 z6 w v6 _ I6 e4 e6 q6) fun _ s7 ⟨z7, H7, I7, e7, k3, ek3, q7⟩ => ?_))
      subst ek3
      cases e7
      exact wpAny_truthy_bool ⟨H7, I7, q7⟩
/-- .. -/
def dChain3 (o1 o2 o3 : OpD) (a b c d : DTE) : DTE := fun ρ M Q E => a ρ M (fun x M1 => b ρ M1 (fun y M2 => o1 (drf M2 x) (drf M2 y) fun z => match z with
  | .bl k => if k = true then c ρ M2 (fun w M3 => o2 (drf M3 y) (drf M3 w) fun z2 => match z2 with
    | .bl k2 => if k2 = true then d ρ M3 (fun v M4 => o3 (drf M4 w) (drf M4 v) fun e => Q e M4) E else Q (.bl false) M3
    | _ => False) E else Q (.bl false) M2
  | _ => False) E) E
theorem rf_chain3 {B : Bx} (ha : RfR B wx ta Ta) (hb : RfR B wx tb Tb) (hc : RfR B wx tc Tc) (hd : RfR B wx td Td) (h1 : RfO B r1 o1) (h2 : RfO B r2 o2) (h3 : RfO B r3 o3) : RfE B wx (tChain3 r1 r2 r3 ta tb tc td) (dChain3 o1 o2 o3 Ta Tb Tc Td) := fun W0 W m σ ρ M Q Qd Ed R k g1 g2 g3 => by
  refine ha W0 W m σ ρ M _ _ Ed R k g1 (fun d1 v1 Wa ma Ma q le k' hv => ?_) g3
  refine hb W0 Wa ma σ ρ Ma _ _ Ed (R.mono le) k' q (fun d2 v2 Wb mb Mb q2 le2 k2 hv2 => ?_) (g3.up le)
  refine h1 Wb mb Mb v1 v2 _ _ _ _ k2 ((hv.le le2).drf k2) (hv2.drf k2) q2 fun d3 v3 Wc q3 le3 k3 hv3 => ?_
  cases d3 with
  | bl kk =>
    cases hv3
    refine ⟨kk, rfl, ?_⟩
    have l3 := (le.trans le2).trans le3
    cases kk with
    | false => exact g2 _ _ Wc mb Mb q3 l3 k3 (.bl _)
    | true =>
      refine hc W0 Wc mb σ ρ Mb _ _ Ed (R.mono l3) k3 q3 (fun d4 v4 Wd4 m4 M4 q4 le4 k4 hv4 => ?_) (g3.up l3)
      refine h2 Wd4 m4 M4 v2 v4 _ _ _ _ k4 ((hv2.le (le3.trans le4)).drf k4) (hv4.drf k4) q4 fun d5 v5 W5 q5 le5 k5 hv5 => ?_
      have l5 := (l3.trans le4).trans le5
      cases d5 with
      | bl k6 =>
        cases hv5
        refine ⟨k6, rfl, ?_⟩
        cases k6 with
        | false => exact g2 _ _ W5 m4 M4 q5 l5 k5 (.bl _)
        | true =>
          refine hd W0 W5 m4 σ ρ M4 _ _ Ed (R.mono l5) k5 q5 (fun d6 v6 W6 m6 M6 q6 le6 kk6 hv6 => ?_) (g3.up l5)
          exact h3 W6 m6 M6 v4 v6 _ _ Q _ kk6 ((hv4.le (le5.trans le6)).drf kk6) (hv6.drf kk6) q6 fun d7 v7 W7 q7 le7 k7 hv7 => g2 d7 v7 W7 m6 M6 q7 ((l5.trans le6).trans le7) k7 hv7
      | _ => exact q5.elim
  | _ => exact q3.elim
theorem de_chain3 (h1 : OpR X (compareOp op1) r1) (g1 : RfO (bx X) r1 o1) (h2 : OpR X (compareOp op2) r2) (g2 : RfO (bx X) r2 o2) (h3 : OpR X (compareOp op3) r3) (g3 : RfO (bx X) r3 o3) (ha : DR X wx a Ta) (hb : DR X wx b Tb) (hc : DR X wx c Tc) (hd : DR X wx d Td)
    (hm : lastMarks [op1, op2, op3] [b, c, d] = false := by with_unfolding_all rfl) : DE X wx (.Compare a [op1, op2, op3] [b, c, d] pos) (dChain3 o1 o2 o3 Ta Tb Tc Td) := by
  obtain ⟨ta, pa, ra⟩ := ha
  obtain ⟨tb, pb, rb⟩ := hb
  obtain ⟨tc, pc, rc⟩ := hc
  obtain ⟨td, pd, rd⟩ := hd
  exact ⟨_, pe_chain3 h1 h2 h3 pa pb pc pd hm, rf_chain3 ra rb rc rd g1 g2 g3⟩
theorem dt_chain3 (h1 : OpR X (compareOp op1) r1) (g1 : RfO (bx X) r1 o1) (h2 : OpR X (compareOp op2) r2) (g2 : RfO (bx X) r2 o2) (h3 : OpR X (compareOp op3) r3) (g3 : RfO (bx X) r3 o3) (ha : DR X wx a Ta) (hb : DR X wx b Tb) (hc : DR X wx c Tc) (hd : DR X wx d Td)
    (hm : lastMarks [op1, op2, op3] [b, c, d] = false := by with_unfolding_all rfl) : DT X wx (.Compare a [op1, op2, op3] [b, c, d] pos) (dTst (dChain3 o1 o2 o3 Ta Tb Tc Td)) := by
  obtain ⟨ta, pa, ra⟩ := ha
  obtain ⟨tb, pb, rb⟩ := hb
  obtain ⟨tc, pc, rc⟩ := hc
  obtain ⟨td, pd, rd⟩ := hd
  exact ⟨_, pt_chain3 h1 h2 h3 pa pb pc pd hm, rf_tst (rf_chain3 ra rb rc rd g1 g2 g3)⟩
end
/-! ### try .. except X: .. except Y: .. -/
abbrev DHd := List (List Str × List Str × DTS)
def exM (DD : DEnds) : DHd → Str → List Ent → Mu → Prop
  | [] => DD.ex
  | (yes, no, Su) :: r => fun C ρ M => (C ∈ yes ∧ Su { DD with ex := fun _ _ _ => False } ρ M) ∨ (C ∈ no ∧ exM DD r C ρ M)
inductive DHds (X : Cx) : List ExceptHandler → DHd → Prop
  | nil : DHds X [] []
  | cons {x : Str} {yes no : List Str} {Su : DTS} {b₀ : Stmt} {suite : List Stmt} {np pos' : Pos} {hds : List ExceptHandler} {l : DHd} (hx : ExcF (bx X) x yes no) (hg : Gl X x) (hd : (x == ("__debug__" : Str)) = false)
      (hsu : ∀ (a : Addr) (pn : List (Addr × Obj)), DSs (X.suite a pn) (fun _ _ _ _ => False) (b₀ :: suite) Su) (r : DHds X hds l) : DHds X (.ExceptHandler (some (.Name x np)) none (b₀ :: suite) pos' :: hds) ((yes, no, Su) :: l)
theorem dh_cons {X : Cx} {x : Str} {yes no : List Str} {Su : DTS} {b₀ : Stmt} {suite : List Stmt} {np pos' : Pos} {hds : List ExceptHandler} {l : DHd} (hx : ExcF (bx X) x yes no) (hsu : ∀ (a : Addr) (pn : List (Addr × Obj)), DSs (X.suite a pn) (fun _ _ _ _ => False) (b₀ :: suite) Su) (r : DHds X hds l)
    (hg : Gl X x := by rfl) (hd : (x == ("__debug__" : Str)) = false := by decide) : DHds X (.ExceptHandler (some (.Name x np)) none (b₀ :: suite) pos' :: hds) ((yes, no, Su) :: l) := .cons hx hg hd hsu r
theorem DHds.ok {X : Cx} {wx : WX} {hds : List ExceptHandler} {l : DHd} (h : DHds X hds l) : ∃ l', HdsOk X hds l' ∧ ∀ (W0 : Wd) (D : Ends) (DD : DEnds), EndsOk (bx X) wx W0 D DD → ∀ (C : Str) (W : Wd) (m : Hp) (σ : L2.St) (ρ : List Ent) (M : Mu), Rel (bx X) W0 W σ ρ → MOk (bx X) W M m → exM DD l C ρ M →
    wMany X.K wx D l' (.ref ((bx X).cl C)) none σ (cat W.H m) := by
  induction h with
  | nil => exact ⟨[], .nil, fun W0 D DD k C W m σ ρ M R mk q => k.ex C W m σ ρ M R mk q⟩
  | @cons x yes no Su b₀ suite np pos' hds l hx hg hd hsu r ih =>
    obtain ⟨l', h1, h2⟩ := ih
    refine ⟨(.ref ((bx X).cl x), fun a _ _ D σ H => ∀ pn, (hsu a pn).choose D σ H) :: l', .cons ⟨hg, hd, .inl hx.mg⟩ (fun a oe cls d pn _ _ => ⟨fun pins s σ H D I q => ?_⟩) h1, fun W0 D DD k C W m σ ρ M R mk q => ?_⟩
    · exact (hsu a ((a, oe) :: pn)).choose_spec.1.run pins s σ H D I (q _)
    · rcases q with ⟨hy, q⟩ | ⟨hn, q⟩
      · exact ⟨true, hx.yes C hy, (fun _ a _ pn => (hsu a pn).choose_spec.2 W0 W m σ ρ M D _ R mk q ⟨k.nx, k.rt, k.bk, k.ct, fun _ _ _ _ _ _ _ _ z => z⟩), (fun z => by cases z)⟩
      · exact ⟨false, hx.no C hn, (fun z => by cases z), fun _ => h2 W0 D DD k C W m σ ρ M R mk q⟩
def dTryM (l : DHd) (S : DTS) : DTS := fun DD ρ M => S { DD with ex := exM DD l } ρ M
theorem ds_tryM {X : Cx} {wx : WX} {body : List Stmt} {h₀ : ExceptHandler} {hds : List ExceptHandler} {l : DHd} {S : DTS} {pos : Pos} (tk : Takes X wx) (hh : DHds X (h₀ :: hds) l)
    (hb : ∀ (W : WX) (pn : List (Addr × Obj)) (xe : Value → Shared → Prop), Takes (X.tr pn xe) W → PassesOwn (model X.prog X.w) X.A X.env xe → DSs (X.tr pn xe) W body S)
    (hs : X.stack = X.env :: X.outer := by rfl) (hf : X.env.frame = some X.env.locals := by rfl) : DS X wx (.Try body (h₀ :: hds) [] [] pos) (dTryM l S) := by
  obtain ⟨l', h1, h2⟩ := hh.ok (wx := wx)
  have hb' : ∃ tb : WX → TS, (∀ W pn xe, Takes (X.tr pn xe) W → PassesOwn (model X.prog X.w) X.A X.env xe → PSs (X.tr pn xe) body (tb W)) ∧ ∀ W, RfS (bx X) W (tb W) S := by
    refine ⟨fun W D σ H => ∀ pn xe (h1 : Takes (X.tr pn xe) W) (h2 : PassesOwn (model X.prog X.w) X.A X.env xe), (hb W pn xe h1 h2).choose D σ H, fun W pn xe h1 h2 => ⟨fun pins s σ H D I h => ?_⟩, fun W W0 W1 m σ ρ M D DD R mk h k pn xe h1 h2 => ?_⟩
    · exact (hb W pn xe h1 h2).choose_spec.1.run pins s σ H D I (h pn xe h1 h2)
    · exact (hb W pn xe h1 h2).choose_spec.2 W0 W1 m σ ρ M D DD R mk h k
  obtain ⟨tb, p1, r1⟩ := hb'
  refine ⟨_, ps_try_many hs hf tk p1 h1, fun W0 W m σ ρ M D DD R mk h k => ?_⟩
  exact r1 _ W0 W m σ ρ M D _ R mk h ⟨k.nx, k.rt, k.bk, k.ct, fun C W' m' σ' ρ' M' R' mk' q => h2 W0 D DD k C W' m' σ' ρ' M' R' mk' q⟩
end Z

/-! Still more built-ins: all, any, sum, zip, list(reversed(..)). -/
namespace Z
open PySem PySem.Spec PyProof.Rows L2
open Evl (Ex)
/-! ### all, any, sum -/
def bls : List D → Option (List Bool)
  | [] => some []
  | .bl b :: r => (bls r).map (b :: ·)
  | _ :: _ => none
theorem bls_of : ∀ {ds : List D} {ys : List Bool}, bls ds = some ys → ds = ys.map .bl
  | [], ys, h => by cases h; rfl
  | .bl x :: r, ys, h => by
    unfold bls at h
    obtain ⟨zs, h1, h2⟩ := Option.map_eq_some_iff.mp h
    subst h2
    rw [bls_of h1]; rfl
  | .non :: _, _, h => by cases h
  | .str _ :: _, _, h => by cases h
  | .int _ :: _, _, h => by cases h
  | .lst _ :: _, _, h => by cases h
  | .tup _ :: _, _, h => by cases h
  | .obj _ _ :: _, _, h => by cases h
  | .ref _ :: _, _, h => by cases h
  | .ty _ :: _, _, h => by cases h
  | .cls _ :: _, _, h => by cases h
  | .exc _ :: _, _, h => by cases h
  | .dic _ _ :: _, _, h => by cases h
theorem bls_map : ∀ ys : List Bool, bls (ys.map .bl) = some ys
  | [] => rfl
  | y :: ys => by show (bls (ys.map .bl)).map (y :: ·) = _; rw [bls_map ys]; rfl
def intsD : List D → Option (List Int)
  | [] => some []
  | .int b :: r => (intsD r).map (b :: ·)
  | _ :: _ => none
theorem intsD_of : ∀ {ds : List D} {ys : List Int}, intsD ds = some ys → ds = ys.map .int
  | [], ys, h => by cases h; rfl
  | .int x :: r, ys, h => by
    unfold intsD at h
    obtain ⟨zs, h1, h2⟩ := Option.map_eq_some_iff.mp h
    subst h2
    rw [intsD_of h1]; rfl
  | .non :: _, _, h => by cases h
  | .str _ :: _, _, h => by cases h
  | .bl _ :: _, _, h => by cases h
  | .lst _ :: _, _, h => by cases h
  | .tup _ :: _, _, h => by cases h
  | .obj _ _ :: _, _, h => by cases h
  | .ref _ :: _, _, h => by cases h
  | .ty _ :: _, _, h => by cases h
  | .cls _ :: _, _, h => by cases h
  | .exc _ :: _, _, h => by cases h
  | .dic _ _ :: _, _, h => by cases h
theorem intsD_map : ∀ ys : List Int, intsD (ys.map .int) = some ys
  | [] => rfl
  | y :: ys => by show (intsD (ys.map .int)).map (y :: ·) = _; rw [intsD_map ys]; rfl
def oAll (ds : List D) (Q : D → Prop) : Prop := match ds with | [.lst xs] => ∃ bs, bls xs = some bs ∧ Q (.bl (bs.all id)) | _ => False
def oAny (ds : List D) (Q : D → Prop) : Prop := match ds with | [.lst xs] => ∃ bs, bls xs = some bs ∧ Q (.bl (bs.any id)) | _ => False
def oSum (ds : List D) (Q : D → Prop) : Prop := match ds with | [.lst xs] => ∃ ns, intsD xs = some ns ∧ Q (.int ns.sum) | _ => False
theorem rf_all {B : Bx} : RfC B (rAll B.K) oAll := by
  intro W m M vs ds Q Qd mk rs h k
  unfold oAll at h
  split at h
  · obtain ⟨bs, e, h⟩ := h
    have e := bls_of e
    subst e
    cases rs with
    | cons r t =>
      cases t
      obtain ⟨p, vs, rfl, s1, s2⟩ := r
      rw [s2.bls] at s1
      exact ⟨p, bs, rfl, s1, k _ _ W h (Wd.le.refl W) mk (.bl _)⟩
  · exact h.elim
theorem rf_any {B : Bx} : RfC B (rAny B.K) oAny := by
  intro W m M vs ds Q Qd mk rs h k
  unfold oAny at h
  split at h
  · obtain ⟨bs, e, h⟩ := h
    have e := bls_of e
    subst e
    cases rs with
    | cons r t =>
      cases t
      obtain ⟨p, vs, rfl, s1, s2⟩ := r
      rw [s2.bls] at s1
      exact ⟨p, bs, rfl, s1, k _ _ W h (Wd.le.refl W) mk (.bl _)⟩
  · exact h.elim
theorem rf_sum {B : Bx} : RfC B (rSum B.K) oSum := by
  intro W m M vs ds Q Qd mk rs h k
  unfold oSum at h
  split at h
  · obtain ⟨bs, e, h⟩ := h
    have e := intsD_of e
    subst e
    cases rs with
    | cons r t =>
      cases t
      obtain ⟨p, vs, rfl, s1, s2⟩ := r
      rw [s2.ints] at s1
      exact ⟨p, bs, rfl, s1, k _ _ W h (Wd.le.refl W) mk (.int _)⟩
  · exact h.elim
/-! ### zip of two lists or two tuples -/
def zipD (xs ys : List D) : List D := (xs.zip ys).map fun p => D.tup [p.1, p.2]
theorem zipD_get {xs ys : List D} {i : Nat} {d : D} (h : (zipD xs ys)[i]? = some d) : ∃ x y, xs[i]? = some x ∧ ys[i]? = some y ∧ d = .tup [x, y] := by
  unfold zipD at h
  rw [List.getElem?_map] at h
  obtain ⟨p, h1, h2⟩ := Option.map_eq_some_iff.mp h
  rw [List.getElem?_zip_eq_some] at h1
  exact ⟨p.1, p.2, h1.1, h1.2, h2.symm⟩
theorem zipD_len (xs ys : List D) : (zipD xs ys).length = min xs.length ys.length := by simp [zipD]
def dZip (R : DTA) : DTA := fun ρ M Q E => R ρ M (fun ds M' => match ds with | [.lst xs, .lst ys] => Q (zipD xs ys) M' | [.tup xs, .tup ys] => Q (zipD xs ys) M' | _ => False) E
section
variable {X : Cx} {wx : WX} {e a b : Expr} {T Ta Tb : DTE} {pos : Pos}
theorem di_zip {ms : List Bool} {Ra : DTA} {p tpos : Pos} {elts : List Expr} {kk : Nat} (hm : X.mg "zip" = none) (ha : DM X wx ms [a, b] Ra) (hms : ms.any id = false := by rfl) (hg : Gl X "zip" := by rfl)
    (hs : starEach [a, b] X.env = (false, eval a X.env) :: starEach [b] X.env := by rfl) (hpl : (backTo pos (starEach [b] X.env)).any (·.1) = false := by rfl) : DI X wx (.Tuple elts kk tpos) (.Call (.Name "zip" p) [a, b] [] pos) (dZip Ra) := by
  obtain ⟨t, pa, r⟩ := ha
  refine ⟨_, RZ.pi_zipA hg hm pa hs hpl, fun W0 W m σ ρ M Q Qd Ed R mk h1 h2 h3 => r W0 W m σ ρ M _ _ _ R mk h1 (fun ds vs W' m' M' q le mk' hv => ?_) h3⟩
  have hv := hv.all hms
  split at q
  · rename_i xs ys
    cases hv with
    | cons r1 t1 =>
      cases t1 with
      | cons r2 t2 =>
        cases t2
        cases r1 with
        | lst h4 h5 =>
          cases r2 with
          | lst g4 g5 =>
            rename_i a1 v1 a2 v2
            refine ⟨a1, a2, v1, v2, rfl, .inl ⟨Evl.ex_l (W'.ok.trans (cat_ex W'.H m')) h4, Evl.ex_l (W'.ok.trans (cat_ex W'.H m')) g4, h2 _ _ W' m' M' q le mk' fun i W2 m2 M2 le2 ex mk2 => ?_⟩⟩
            have sq1 : SqL X.K (cat W2.H m2) a1 v1 := Evl.ex_l (W2.ok.trans (cat_ex W2.H m2)) (Evl.ex_l ex h4)
            have sq2 : SqL X.K (cat W2.H m2) a2 v2 := Evl.ex_l (W2.ok.trans (cat_ex W2.H m2)) (Evl.ex_l ex g4)
            refine ⟨fun d hd => ?_, fun hl => ⟨v1, v2, sq1, sq2, by rw [h5.length, g5.length]; rw [zipD_len] at hl; omega⟩⟩
            obtain ⟨x, y, hx, hy, rfl⟩ := zipD_get hd
            obtain ⟨vx, g1, g2⟩ := h5.get hx
            obtain ⟨vy, k1, k2⟩ := g5.get hy
            refine ⟨⟨v1, v2, vx, vy, sq1, sq2, g1, k1⟩, fun x' H' z => ?_⟩
            obtain ⟨T, x2, y2, rfl, hT, rfl, z1, z2⟩ := z
            have e1 := z1 v1 sq1
            have e2 := z2 v2 sq2
            rw [g1] at e1
            rw [k1] at e2
            cases e1
            cases e2
            have hT1 := (cat_new hT).1
            exact ⟨W2.new T _, W2.le_new hT1, cat_upd.symm, mk2.new hT, .tup (SqT.of (upd_same (H := W2.F))) (.cons ((g2.mono ex).mono (W2.le_new hT1).f) (.cons ((k2.mono ex).mono (W2.le_new hT1).f) .nil))⟩
  · rename_i xs ys
    cases hv with
    | cons r1 t1 =>
      cases t1 with
      | cons r2 t2 =>
        cases t2
        cases r1 with
        | tup h4 h5 =>
          cases r2 with
          | tup g4 g5 =>
            rename_i a1 v1 a2 v2
            refine ⟨a1, a2, v1, v2, rfl, .inr ⟨Evl.ex_t (W'.ok.trans (cat_ex W'.H m')) h4, Evl.ex_t (W'.ok.trans (cat_ex W'.H m')) g4, h2 _ _ W' m' M' q le mk' fun i W2 m2 M2 le2 ex mk2 => ?_⟩⟩
            have sq1 : SqT X.K (cat W2.H m2) a1 v1 := Evl.ex_t (W2.ok.trans (cat_ex W2.H m2)) (Evl.ex_t ex h4)
            have sq2 : SqT X.K (cat W2.H m2) a2 v2 := Evl.ex_t (W2.ok.trans (cat_ex W2.H m2)) (Evl.ex_t ex g4)
            refine ⟨fun d hd => ?_, fun hl => ⟨v1, v2, sq1, sq2, by rw [h5.length, g5.length]; rw [zipD_len] at hl; omega⟩⟩
            obtain ⟨x, y, hx, hy, rfl⟩ := zipD_get hd
            obtain ⟨vx, g1, g2⟩ := h5.get hx
            obtain ⟨vy, k1, k2⟩ := g5.get hy
            refine ⟨⟨v1, v2, vx, vy, sq1, sq2, g1, k1⟩, fun x' H' z => ?_⟩
            obtain ⟨T, x2, y2, rfl, hT, rfl, z1, z2⟩ := z
            have e1 := z1 v1 sq1
            have e2 := z2 v2 sq2
            rw [g1] at e1
            rw [k1] at e2
            cases e1
            cases e2
            have hT1 := (cat_new hT).1
            exact ⟨W2.new T _, W2.le_new hT1, cat_upd.symm, mk2.new hT, .tup (SqT.of (upd_same (H := W2.F))) (.cons ((g2.mono ex).mono (W2.le_new hT1).f) (.cons ((k2.mono ex).mono (W2.le_new hT1).f) .nil))⟩
  · exact q.elim
end
/-! ### list(reversed(xs)) -/
section
variable {prog : Program} {w : World} {A : Around} {E : Value → Shared → Prop} {s : Shared}
theorem init_rev {R : Result → Shared → Prop} {it l S : Addr} {items : Array Value} (hh : A.handled = none) (hit : s.heap.IsRevIter it l ((items.size : Int) - 1)) (hl : s.heap.IsList l items) (hne : l ≠ it) (hn : items.size ≤ sizeLine) (hSi : S ≠ it) (hSl : S ≠ l) (hS : s.heap.get? S = some { cls := .type "list", data := .seq #[] })
    (hR : ∀ h' tk acc' c', (∀ b o, b ≠ S → b ≠ it → s.heap.get? b = some o → h'.get? b = some o) → h'.get? S = some { cls := .type "list", dict := none, data := .seq acc' c', slots := #[] } → ItemsOf (fun i v => items[items.size - 1 - i]? = some v) acc' items.size → R (.ok (.ret .none)) { s with heap := h', toks := tk }) :
    wpAny (model prog w) A.in1 (Builtin.«list.__init__» ⟨[.ref S, .ref it], []⟩)
      (fun fin s' => match fin with | .done f => R (.ok f) s' | .again c' => c'.quiet = true ∧ codeAny (model prog w) A c' R s') (fun e s' => R (.error e) s') s := by
  show wpAny _ _ (do let old ← Builtin.List.listItems (.ref S); Builtin.List.listUpdate (.ref S) (fun _ => #[]); letGo old.toList.reverse; Builtin.List.listExtendWith (.ref S) (.ref it) .none) _ _ s
  refine wpAny_bind ?_
  unfold Builtin.List.listItems
  refine wpAny_bind (wpAny_seqItems hS rfl (wpAny_pure ?_))
  show wpAny _ _ (updateSeq S (fun _ => #[]) >>= fun _ => letGo (#[] : Array Value).toList.reverse >>= fun _ => Builtin.List.listExtendWith (.ref S) (.ref it) .none) _ _ s
  refine wpAny_bind (wpAny_updateSeq hS rfl ?_)
  have hS₂ := Heap.get?_update_self (Obj.mapSeq (fun _ => (#[] : Array Value))) hS rfl
  have oth : ∀ b o, b ≠ S → s.heap.get? b = some o → (s.heap.update S (Obj.mapSeq (fun _ => (#[] : Array Value)))).get? b = some o :=
    fun b o hb e => (Heap.get?_update_other _ _ (Ne.symm hb)).trans e
  refine wpAny_bind (wpAny_letGo ?_)
  generalize hs1 : s.heap.update S (Obj.mapSeq (fun _ => (#[] : Array Value))) = h1 at *
  have hit1 : h1.IsRevIter it l ((items.size : Int) - 1) := hit.at fun o e => oth _ _ (Ne.symm hSi) e
  have hl1 : h1.IsList l items := by
    obtain ⟨o, e, r⟩ := hl
    exact ⟨o, oth _ _ (Ne.symm hSl) e, r⟩
  have W := (Walks.listRev (prog := prog) (w := w) (A := A.in1) hh it l hne items).toS
  have hSf : S ∉ [it, l] := by simp only [List.mem_cons, List.not_mem_nil, or_false, not_or]; exact ⟨hSi, hSl⟩
  have hT : ({ s with heap := h1 } : Shared).TypeIs (.ref it) "list_reverseiterator" := Heap.IsRevIter.typeIs (s := { s with heap := h1 }) hit1
  have hs : Builtin.List.listSameRef (.ref S) (.ref it) = false := by simp [Builtin.List.listSameRef, hSi]
  unfold Builtin.List.listExtendWith
  refine wpAny_bind (wpAny_typeOf hT ?_)
  rw [if_neg (by rw [hs]; decide)]
  refine wpAny_bind (wpAny_pyIter_revIter (s := { s with heap := h1 }) hit1 ?_)
  refine wpAny_bind (wpAny_holding ?_)
  unfold Builtin.List.listLengthHint
  refine wpAny_bind (wpAny_specialOf hT RT.nolen_lri ?_)
  show wpAny _ A.in1 (specialOf (Value.ref it) (Str.ofString "__length_hint__") >>= _) _ _ _
  refine wpAny_bind (wpAny_specialOf hT RT.hint_lri ?_)
  generalize hid : ("list_reverseiterator.__length_hint__" : String) = id0
  wp_delta
  rw [show splitId id0 = some ("list_reverseiterator", "__length_hint__") from by subst hid; decide +kernel]
  subst hid
  refine wpAny_bind (wpAny_isInstance (b := true) hT (by rw [isSubtype_type]; kernel_rfl) ?_)
  refine wpAny_pure ?_
  have e0 : ((items.size : Nat) : Int) - 1 - ((0 : Nat) : Int) = (items.size : Int) - 1 := by omega
  have key : ∀ (h : Heap) (c₁ tk : Nat), h.IsRevIter it l ((items.size : Int) - 1) → h.IsList l items → (∀ b o, b ≠ S → s.heap.get? b = some o → h.get? b = some o) →
      h.get? S = some { cls := .type "list", data := .seq #[] c₁ } → codeAny (model prog w) A (.builtin "list.extend.loop" ⟨[.ref S, .ref it, .none], []⟩) R { s with heap := h, toks := tk } := by
    intro h c₁ tk ha hb hk hS₁
    refine codeAny_extend_loopS W hn S hSf _ items.size 0 _ #[] c₁ rfl (Nat.zero_le _) ⟨Nat.zero_le _, by rw [e0]; exact ha, hb⟩ hS₁ (ItemsOf.nil _) fun s' acc' c' hm hS' hacc => ?_
    rw [Moved.eq_with hm]
    refine hR s'.heap s'.toks acc' c' (fun b o hb hb2 e => hm.heap b o (fun hmem => ?_) (hk b o hb e)) hS' hacc
    rcases List.mem_cons.mp hmem with e' | hmem
    · exact hb e'
    · exact hb2 (List.mem_singleton.mp hmem)
  refine wpAny_ite_split (fun _ => ?_) (fun _ => wpAny_pure ⟨plainId_quiet PySem.F.plain_extend_loop _, key h1 _ _ hit1 hl1 oth hS₂⟩)
  refine wpAny_bind (wpAny_rule ?_)
  refine wpAny_bind ?_
  show wpAny _ _ (updateSeq S (·.push .none) >>= fun _ => updateSeq S (·.pop)) _ _ _
  refine wpAny_bind (wpAny_updateSeq hS₂ rfl ?_)
  have hS₃ := Heap.get?_update_self (Obj.mapSeq (·.push Value.none)) hS₂ rfl
  refine wpAny_updateSeq (hz := by seq_fits) hS₃ rfl ?_
  have hS₄ := Heap.get?_update_self (Obj.mapSeq (·.pop)) hS₃ rfl
  have oth2 : ∀ b o, b ≠ S → h1.get? b = some o → ((h1.update S (Obj.mapSeq (·.push Value.none))).update S (Obj.mapSeq (·.pop))).get? b = some o := fun b o hb e => (Heap.get?_update_other _ _ (Ne.symm hb)).trans ((Heap.get?_update_other _ _ (Ne.symm hb)).trans e)
  refine wpAny_pure ⟨plainId_quiet PySem.F.plain_extend_loop _, key _ _ _ (hit1.at fun o e => oth2 _ _ (Ne.symm hSi) e) ?_ (fun b o hb e => oth2 b o hb (oth b o hb e)) hS₄⟩
  obtain ⟨o, e, r⟩ := hl1
  exact ⟨o, oth2 _ _ (Ne.symm hSl) e, r⟩
theorem call_list_rev {it l : Addr} {items : Array Value} {Q : Value → Shared → Prop} (hh : A.handled = none) (hit : s.heap.IsRevIter it l ((items.size : Int) - 1)) (hl : s.heap.IsList l items) (hne : l ≠ it) (hn : items.size ≤ sizeLine)
    (hQ : ∀ h' tk acc' c', (∀ b o, b ≠ it → s.heap.get? b = some o → h'.get? b = some o) → h'.get? s.heap.objs.size = some { cls := .type "list", dict := none, data := .seq acc' c', slots := #[] } → ItemsOf (fun i v => items[items.size - 1 - i]? = some v) acc' items.size → Q (.ref s.heap.objs.size) { s with heap := h', toks := tk }) :
    wpAny (model prog w) A (call (.type "list") [.ref it]) Q E s := by
  refine callType_codes (Q₁ := fun obj s₁ => obj = .ref s.heap.objs.size ∧ s₁ = { s with heap := s.heap.push { cls := .type "list", data := .seq #[] } }) PySem.F.called_list (PySem.F.typeCall_list_1 _) PySem.F.entry_list_init
    (code_list_new _ ⟨rfl, rfl⟩) fun obj s₁ h₁ => ?_
  obtain ⟨rfl, rfl⟩ := h₁
  have hS : (s.heap.push { cls := .type "list", data := .seq #[] }).get? s.heap.objs.size = some { cls := .type "list", data := .seq #[] } := Heap.get?_push_size _ rfl
  obtain ⟨oi, hoi, _⟩ := id hit
  obtain ⟨ol, hol, _⟩ := id hl
  refine ⟨⟨_, hS, rfl⟩, PySem.F.args_list_init_2 _ _, init_rev (A := A.in1) hh (hit.at fun o e => Heap.get?_push_of_some _ e) (hl.push _) hne hn (Nat.ne_of_gt (Heap.lt_size hoi)) (Nat.ne_of_gt (Heap.lt_size hol)) hS fun h' tk acc' c' hk hS' hacc => ?_⟩
  exact ⟨rfl, hQ h' tk acc' c' (fun b o hb e => hk b o (Nat.ne_of_lt (Heap.lt_size e)) hb (Heap.get?_push_of_some _ e)) hS' hacc⟩
end
def tListRev (K : PySem.W.Frag) (te : TE) : TE := fun σ H Q => te σ H fun v H1 => ∃ (a : Addr) (xs : List V), v = .ref a ∧ SqL K H1 a xs ∧ ∀ p, H1 p = none → Q (.ref p) (upd H1 p (.lst xs.reverse))
section
variable {X : Cx} {wx : WX} {e a b : Expr} {T Ta Tb : DTE} {pos : Pos}
theorem pe_listRev {e : Expr} {te : TE} {p p2 pos pos2 : Pos} (hc : X.calm = true) (hg : Gl X "list") (hm : X.mg "list" = none) (hg2 : Gl X "reversed") (hm2 : X.mg "reversed" = none) (he : PE X e te)
    (hs : starEach [e] X.env = (false, eval e X.env) :: starEach [] X.env)
    (hs2 : starEach [.Call (.Name "reversed" p2) [e] [] pos2] X.env = (false, eval (.Call (.Name "reversed" p2) [e] [] pos2) X.env) :: starEach [] X.env) :
    PE X (.Call (.Name "list" p) [.Call (.Name "reversed" p2) [e] [] pos2] [] pos) (tListRev X.K te) := by
  refine ⟨fun pins s σ H Q I h => ?_⟩
  refine Call_ (ld_blt I hg hm boot_list (PyProof.Rows.callWith_type1 (args_cons (Call_ (ld_blt I hg2 hm2 PyProof.Rows.boot_reversed (PyProof.Rows.callWith_type1 (args_cons (thn (he.run pins s σ H _ I h) fun u s1 ⟨v, H1, I1, r1, q1⟩ => args_nil ?_) hs) hs rfl))) hs2) hs2 rfl))
  obtain ⟨a, xs, ev, hq, q⟩ := q1
  subst ev
  obtain rfl : u = Value.ref a := r1
  obtain ⟨its, rv, p', hz⟩ := I1.list hq
  refine call_reversed_list p'.isList (args_nil ?_)
  have k0 : ∀ b o, s1.heap.get? b = some o → (s1.heap.push (revObj a ((its.toArray.size : Int) - 1))).get? b = some o := fun b o e => Heap.get?_push_of_some _ e
  have I2 : Inv X pins σ H1 { s1 with heap := s1.heap.push (revObj a ((its.toArray.size : Int) - 1)) } := I1.kept (t' := s1.toks) k0
  obtain ⟨f0, f1, f2, f3, f4, f5⟩ := I1.fpOk (H' := H1) (b := s1.heap.objs.size) (Nat.le_refl _) (I1.hok.fresh (Nat.le_refl _))
  have hl := p'.isList
  obtain ⟨ol, hol, _⟩ := id hl
  have hne : a ≠ s1.heap.objs.size := Nat.ne_of_lt (Heap.lt_size hol)
  have hn : its.toArray.size ≤ sizeLine := by rw [List.size_toArray, ← rv.length]; exact hz
  refine call_list_rev (s := { s1 with heap := s1.heap.push (revObj a ((its.toArray.size : Int) - 1)) }) (I1.ok.hd hc) ⟨_, Heap.get?_push_size _ rfl, rfl, rfl⟩ (hl.push _) hne hn fun h' tk acc c' hk e' hi => ?_
  have hs : (s1.heap.push (revObj a ((its.toArray.size : Int) - 1))).objs.size = s1.heap.objs.size + 1 := Heap.size_push _ _
  have hkk : ∀ b o, s1.heap.get? b = some o → h'.get? b = some o := fun b o e => hk b o (Nat.ne_of_lt (Heap.lt_size e)) (k0 b o e)
  refine ⟨.ref (s1.heap.push (revObj a ((its.toArray.size : Int) - 1))).objs.size, upd H1 (s1.heap.push (revObj a ((its.toArray.size : Int) - 1))).objs.size (.lst xs.reverse), I1.laid (t' := tk) hkk (by rw [hs]; exact Nat.le_succ _) (show ObjOk X.prog X.w _ _ _ (.lst xs.reverse) from ⟨by rw [List.length_reverse]; exact hz, acc.toList, c', RT.vals_rev rv hi, ?_⟩), rfl, q _ (I1.hok.fresh (by rw [hs]; exact Nat.le_succ _))⟩
  rw [Array.toArray_toList]
  exact e'
def oListRev (x : D) (Q : List D → Prop) : Prop := match x with | .lst xs => Q xs.reverse | _ => False
def dListRev (T : DTE) : DTA := fun ρ M Q E => T ρ M (fun x M' => oListRev (drf M' x) fun ds => Q ds M') E
theorem dn_listRev {p p2 pos2 : Pos} (hm : X.mg "list" = none) (hm2 : X.mg "reversed" = none) (he : DR X wx e T) (hc : X.calm = true := by rfl) (hg : Gl X "list" := by rfl) (hg2 : Gl X "reversed" := by rfl)
    (hs : starEach [e] X.env = (false, eval e X.env) :: starEach [] X.env := by rfl)
    (hs2 : starEach [.Call (.Name "reversed" p2) [e] [] pos2] X.env = (false, eval (.Call (.Name "reversed" p2) [e] [] pos2) X.env) :: starEach [] X.env := by rfl) :
    DN X wx (.Call (.Name "list" p) [.Call (.Name "reversed" p2) [e] [] pos2] [] pos) (dListRev T) := by
  obtain ⟨t, pe, r⟩ := he
  refine ⟨_, pe_listRev hc hg hm hg2 hm2 pe hs hs2, fun W0 W m σ ρ M Q Qd Ed R k h1 h2 h3 => r W0 W m σ ρ M _ _ Ed R k h1 (fun d v W' m' M' q le k' hv => ?_) h3⟩
  have hv := hv.drf k'
  unfold oListRev at q
  split at q
  · rename_i xs z
    rw [z] at hv
    obtain ⟨a1, vs1, rfl, s1, r1⟩ := hv
    refine ⟨a1, vs1, rfl, s1, fun p hp => ?_⟩
    exact newO le k' hp r1.reverse fun W4 l4 k4 h4 h5 h6 h7 => h2 _ p _ W4 m' M' q l4 k4 h4 h5 h6 h7
  · exact q.elim
end
end Z

/-! Dicts, and lists of the store. -/
namespace Z
open PySem PySem.Spec PyProof.Rows L2
open Evl (Ex)
/-! ### the store -/
def obD : Ob → D
  | .lst ds => .lst ds
  | .dic t ks => .dic t ks
  | .ins n fs => .obj n fs
theorem MOk.nn {B : Bx} {W : Wd} {M : Mu} {m : Hp} (k : MOk B W M m) {p : Addr} (h : m p = none) : M p = none := by
  cases z : M p with
  | none => rfl
  | some ob => have o1 := k.ok p; rw [z] at o1; exact absurd h o1.ne
/-- a thing of the store is frozen -/
theorem MOk.freezeA {B : Bx} {W : Wd} {M : Mu} {m : Hp} {a : Addr} {ob : Ob} (h : MOk B W M m) (e : M a = some ob) : ∃ W' m', cat W'.H m' = cat W.H m ∧ W.le W' ∧ MOk B W' (delM M a) m' ∧ Rp B W'.F (.ref a) (obD ob) := by
  have hH := h.hn e
  have o1 := h.ok a
  rw [e] at o1
  have go : ∀ o : HO, m a = some o → (∀ F', Ex W.F F' → F' a = some o → Rp B F' (.ref a) (obD ob)) → ∃ W' m', cat W'.H m' = cat W.H m ∧ W.le W' ∧ MOk B W' (delM M a) m' ∧ Rp B W'.F (.ref a) (obD ob) := fun o o2 o3 => by
    refine ⟨W.new a o, fun b => if b = a then none else m b, ?_, W.le_new hH, ⟨fun b hb => ?_, fun b => ?_⟩, o3 _ (W.le_new hH).f upd_same⟩
    · funext b
      by_cases z : b = a
      · subst z
        rw [cat_some (show (W.new b o).H b = _ from upd_same), cat_none hH, o2]
      · unfold cat
        dsimp only
        rw [show (W.new a o).H b = W.H b from upd_ne z, if_neg z]
    · by_cases z : b = a
      · rw [if_pos z]
      · rw [if_neg z]
        refine h.dj b ?_
        rw [← show (W.new a o).H b = W.H b from upd_ne z]; exact hb
    · unfold delM
      by_cases z : b = a
      · rw [if_pos z, if_pos z]; trivial
      · rw [if_neg z, if_neg z]; exact (h.ok b).mono (W.le_new hH).f
  cases ob with
  | lst ds => obtain ⟨vs, o2, o3⟩ := o1; exact go _ o2 fun F' ex hf => .lst (SqL.of hf) (o3.mono ex)
  | dic t ks =>
    rcases o1 with ⟨rfl, kv, o, o2, o3⟩ | ⟨rfl, xs, o, o2, o3⟩
    · exact go _ o2 fun F' ex hf => .dic hf (o3.mono ex)
    · exact go _ o2 fun F' ex hf => .dit hf (o3.mono ex)
  | ins n fs => obtain ⟨dx, fv, o2, o3⟩ := o1; exact go _ o2 fun F' ex hf => .obj hf (o3.mono ex)
section
variable {X : Cx} {wx : WX} {e a b c o f : Expr} {es : List Expr} {T Ta Tb Tc To Tk Tx : DTE} {pos pos' apos : Pos} {st : Stmt} {S : DTS} {rest : List Stmt}
/-- a name that points to a thing of the store: the thing is frozen ahead of a statement -/
def dFrzM (i : Nat) (S : DTS) : DTS := fun DD ρ M => match ga ρ i with
  | .dat (.ref a) => (match M a with | some ob => S DD (ρ.set i (.dat (obD ob))) (delM M a) | none => S DD ρ M)
  | _ => S DD ρ M
theorem rf_frzM {B : Bx} {t : TS} (i : Nat) (r : RfS B wx t S) : RfS B wx t (dFrzM i S) := fun W0 W m σ ρ M D DD R mk h k => by
  unfold dFrzM at h
  split at h
  · rename_i a z
    cases y : M a with
    | none => rw [y] at h; exact r W0 W m σ ρ M D DD R mk h k
    | some ob =>
      rw [y] at h
      obtain ⟨W', m', e1, le, mk', rp⟩ := mk.freezeA y
      obtain ⟨v, e2, rv⟩ := R.dat z
      cases rv
      have R' := (R.mono le).set (i := i) rp
      rw [set_same e2] at R'
      have q := r W0 W' m' σ _ _ D DD R' mk' h k
      rw [e1] at q
      exact q
  · exact r W0 W m σ ρ M D DD R mk h k
theorem ds_frzM (i : Nat) (h : DS X wx st S) : DS X wx st (dFrzM i S) := by
  obtain ⟨t, p, r⟩ := h
  exact ⟨t, p, rf_frzM i r⟩
/-- a new list, put into the store -/
theorem DN.sto {T : DTA} (h : DN X wx e T) : DE X wx e (dLstM T) := by
  obtain ⟨t, p, r⟩ := h
  refine ⟨t, p, fun W0 W m σ ρ M Q Qd Ed R k h1 h2 h3 => r W0 W m σ ρ M Q _ Ed R k h1 (fun ds p vs W' m' M' q le k' hn hp hf hv => ?_) h3⟩
  have mp : m' p = none := k'.dj p (by rw [hp]; exact fun z => by cases z)
  have exH : Ex W'.F (fun b => if b = p then none else W'.H b) := fun b o z => by
    dsimp only
    rw [if_neg (fun y => by subst y; rw [hf] at z; cases z)]
    exact W'.ok b o z
  have le3 : W.le ⟨W'.F, fun b => if b = p then none else W'.H b, exH⟩ := ⟨le.f, fun b o z => by
    dsimp only
    rw [if_neg (fun y => by subst y; rw [hn] at z; cases z)]
    exact le.h b o z, le.n⟩
  have k3 : MOk (bx X) ⟨W'.F, fun b => if b = p then none else W'.H b, exH⟩ M' m' := ⟨fun b hb => k'.dj b (fun z => hb (by
    dsimp only
    split
    · rfl
    · exact z)), k'.ok⟩
  have k4 := k3.put (a := p) (ob := .lst ds) (o := .lst vs) (if_pos rfl) ⟨vs, rfl, hv⟩
  have e1 : cat (fun b => if b = p then none else W'.H b) (upd m' p (.lst vs)) = cat W'.H m' := by
    funext b
    by_cases z : b = p
    · subst z
      rw [cat_none (if_pos rfl), upd_same, cat_some hp]
    · unfold cat
      dsimp only
      rw [if_neg z, upd_ne z]
  have := h2 (.ref p) (.ref p) _ _ _ (q p (k'.nn mp)) le3 k4 (.ref p)
  rw [← e1]
  exact this
/-! ### {} -/
def dDnew (t : Bool) : DTE := fun _ M Q _ => ∀ a, M a = none → Q (.ref a) (updM M a (.dic t []))
def tDNewX (B : Bx) (t : Bool) : TE := fun _ H Q => ∀ p o, H p = none → DicO B (fun _ => none) p t [] (some o) → Q (.ref p) (upd H p o)
theorem pe_dnewX {t : Bool} : PE X (.Dict [] [] pos) (tDNewX (bx X) t) := ⟨fun pins s σ H Q I h => by
  have hb : (s.heap.objs.size == sysModules) = false := beq_eq_false_iff_ne.mpr (Ne.symm (Nat.ne_of_lt I.big))
  have hq : (s.heap.push { cls := .type "dict", data := .dict #[] }).get? s.heap.objs.size = some { cls := .type "dict", data := .dict #[] } := Heap.get?_push_size _ rfl
  cases t with
  | false =>
    refine wpAny_Dict_empty ⟨.ref s.heap.objs.size, _, I.laid (a := s.heap.objs.size) (o := .ext (DkAt (bx X) s.heap.objs.size { cls := .type "dict", data := .dict #[] } [])) (t' := s.toks) (fun _ _ q => Heap.get?_push_of_some _ q) (Nat.le_refl _) (dk_ok hq (Nat.zero_le _) hb .nil (Heap.DictOf.new s.heap)), rfl, h _ _ (I.hok.fresh (Nat.le_refl _)) (.inl ⟨rfl, [], _, rfl, .nil⟩)⟩
  | true =>
    refine wpAny_Dict_empty ⟨.ref s.heap.objs.size, _, I.laid (a := s.heap.objs.size) (o := .ext (RawD (bx X) s.heap.objs.size { cls := .type "dict", data := .dict #[] } [])) (t' := s.toks) (fun _ _ q => Heap.get?_push_of_some _ q) (Nat.le_refl _) (raw_ok (Nat.zero_le _) hb hq (Heap.DictOfH.new s.heap)), rfl, h _ _ (I.hok.fresh (Nat.le_refl _)) (.inr ⟨rfl, [], _, rfl, .nil⟩)⟩⟩
theorem DicO.none_mono {B : Bx} {F : Hp} {a : Addr} {t : Bool} {ks : List (D × D)} {o : Option HO} (h : DicO B (fun _ => none) a t ks o) : DicO B F a t ks o := h.mono fun _ _ z => by cases z
theorem de_dnew (t : Bool) : DE X wx (.Dict [] [] pos) (dDnew t) := by
  refine ⟨_, pe_dnewX (t := t), fun W0 W m σ ρ M Q Qd Ed R k h1 h2 h3 => fun p o hp ho => ?_⟩
  obtain ⟨hp1, hp2⟩ := cat_new hp
  exact cat_qm (P := Q (.ref p)) hp1 (h2 _ (.ref p) W _ _ (h1 p (k.nn hp2)) (Wd.le.refl W) (k.put (ob := .dic t []) hp1 ho.none_mono) (.ref p))
/-! ### d[k] = v -/
def onDic (M : Mu) (d : D) (K : Addr → Bool → List (D × D) → Prop) : Prop := match d with
  | .ref a => (match M a with | some (.dic t ks) => K a t ks | _ => False)
  | _ => False
theorem onDic_of {M : Mu} {d : D} {K : Addr → Bool → List (D × D) → Prop} (h : onDic M d K) : ∃ a t ks, d = .ref a ∧ M a = some (.dic t ks) ∧ K a t ks := by
  unfold onDic at h
  split at h
  · split at h
    · rename_i z; exact ⟨_, _, _, rfl, z, h⟩
    · exact h.elim
  · exact h.elim
def dDput (To Tk Tv : DTE) : DTS := fun DD ρ M => Tv ρ M (fun v M1 => To ρ M1 (fun x M2 => Tk ρ M2 (fun k M3 => onDic M3 x fun a t ks => kOkB t k = true ∧ ks.length < sizeLine ∧ DD.nx ρ (updM M3 a (.dic t (putG ks k v)))) fun C => DD.ex C ρ) fun C => DD.ex C ρ) fun C => DD.ex C ρ
def sDPutX (B : Bx) (td ty tv : TE) : TS := fun D σ H => tv σ H fun v H1 => td σ H1 fun x H2 => ty σ H2 fun y H3 => ∃ F a t ks k d, x = .ref a ∧ Ex F H3 ∧ DicO B F a t ks (H3 a) ∧ Rp B F y k ∧ kOkB t k = true ∧ ks.length < sizeLine ∧ Rp B F v d ∧ ∀ o', DicO B F a t (putG ks k d) (some o') → D.nx σ (upd H3 a o')
theorem ps_dputX {value i : Expr} {td ty tv : TE} {j : Nat} (hr : Room j X.A) (ho : PE X o td) (hi : PE X i ty) (hv : PE X value tv) (hs : swapsWith value (some (.Subscript o i pos')) pos.line X.env = pure false) :
    PS X (.Assign [.Subscript o i pos'] value pos) (sDPutX (bx X) td ty tv) := by
  refine ⟨fun pins s σ H D I h => ?_⟩
  refine wpAny_Assign_Subscript (thn (hv.run pins s σ H _ I h) fun r s1 ⟨v, H1, I1, rv, q1⟩ => thn (ho.run pins s1 σ H1 _ I1 q1) fun u s2 ⟨x, H2, I2, rx, q2⟩ => thn (hi.run pins s2 σ H2 _ I2 q2) fun iv s3 ⟨y, H3, I3, ry, F, a, t, ks, k, d, exx, ex, hd, hk, ko, hl, hv, q3⟩ => ?_) hs
  subst exx
  obtain rfl : u = Value.ref a := rx
  exact dx_set hr I3 ex hd hk ko hl ry hv rv fun o' s4 hd' I4 => ⟨σ, _, I4, q3 o' hd'⟩
theorem ds_dput {value i : Expr} {Tv : DTE} {j : Nat} (hr : Room j X.A) (ho : DE X wx o To) (hi : DE X wx i Tk) (hv : DE X wx value Tv) (hs : swapsWith value (some (.Subscript o i pos')) pos.line X.env = pure false := by rfl) :
    DS X wx (.Assign [.Subscript o i pos'] value pos) (dDput To Tk Tv) := by
  obtain ⟨to, po, ro⟩ := ho
  obtain ⟨ti, pi, ri⟩ := hi
  obtain ⟨tv, pv, rv⟩ := hv
  refine ⟨_, ps_dputX hr po pi pv hs, fun W0 W m σ ρ M D DD R mk h k => rv W0 W m σ ρ M _ _ _ R mk h (fun dv v W1 m1 M1 q le mk1 hv => ?_) fun C W' m' M' q le mk' => k.ex C W' m' σ ρ M' (R.mono le) mk' q⟩
  refine ro W0 W1 m1 σ ρ M1 _ _ _ (R.mono le) mk1 q (fun dx x W2 m2 M2 q2 le2 mk2 hx => ?_) fun C W' m' M' q le' mk' => k.ex C W' m' σ ρ M' (R.mono (le.trans le')) mk' q
  refine ri W0 W2 m2 σ ρ M2 _ _ _ (R.mono (le.trans le2)) mk2 q2 (fun dk y W3 m3 M3 q3 le3 mk3 hy => ?_) fun C W' m' M' q le' mk' => k.ex C W' m' σ ρ M' (R.mono ((le.trans le2).trans le')) mk' q
  obtain ⟨a, t, ks, rfl, z, ko, hl, q4⟩ := onDic_of q3
  cases hx
  have hn := mk3.hn z
  have ob := mk3.ok a
  rw [z] at ob
  refine ⟨W3.F, a, t, ks, dk, dv, rfl, W3.ok.trans (cat_ex W3.H m3), ?_, hy, ko, hl, hv.mono (le2.f.trans le3.f), fun o' hd' => ?_⟩
  · rw [cat_none hn]; exact ob
  · exact cat_qm (P := D.nx σ) hn (k.nx W3 _ σ ρ _ (R.mono ((le.trans le2).trans le3)) (mk3.put (ob := .dic t (putG ks dk dv)) hn hd') q4)
/-! ### d.get(k, x), d.setdefault(k, x) -/
def onDicR (M : Mu) (d : D) (K : Bool → List (D × D) → Prop) : Prop := match drf M d with | .dic t ks => K t ks | _ => False
theorem onDicR_of {M : Mu} {d : D} {K : Bool → List (D × D) → Prop} (h : onDicR M d K) : ∃ t ks, drf M d = .dic t ks ∧ K t ks := by
  unfold onDicR at h
  split at h
  · rename_i z; exact ⟨_, _, z, h⟩
  · exact h.elim
def dDget (To Tk Tx : DTE) : DTE := fun ρ M Q E => To ρ M (fun x M1 => onDicR M1 x fun _ _ => Tk ρ M1 (fun k M2 => Tx ρ M2 (fun d M3 => onDicR M3 x fun t ks => kOkB t k = true ∧ Q ((getK ks k).getD d) M3) E) E) E
def setdK (ks : List (D × D)) (k : D) (P : D → Prop) (N : Prop) : Prop := match getK ks k with | some d => P d | none => N
def dDsetd (To Tk Tx : DTE) : DTE := fun ρ M Q E => To ρ M (fun x M1 => onDicR M1 x fun _ _ => Tk ρ M1 (fun k M2 => Tx ρ M2 (fun d M3 => onDic M3 x fun a t ks => kOkB t k = true ∧ ks.length < sizeLine ∧ setdK ks k (fun d' => Q d' M3) (Q d (updM M3 a (.dic t (putG ks k d))))) E) E) E
/-- the thing is a dict now and then -/
def IsDX (B : Bx) (H : Hp) (a : Addr) : Prop := ∃ F t ks, Ex F H ∧ DicO B F a t ks (H a)
def tDGetX (B : Bx) (td ty tx : TE) : TE := fun σ H Q => td σ H fun x H1 => ∃ a, x = .ref a ∧ IsDX B H1 a ∧ ty σ H1 fun y H2 => tx σ H2 fun z H3 => ∃ F t ks k d, Ex F H3 ∧ DicO B F a t ks (H3 a) ∧ Rp B F y k ∧ kOkB t k = true ∧ Rp B F z d ∧ ∀ v, Rp B F v ((getK ks k).getD d) → Q v H3
def tDSetX (B : Bx) (td ty tx : TE) : TE := fun σ H Q => td σ H fun x H1 => ∃ a, x = .ref a ∧ IsDX B H1 a ∧ ty σ H1 fun y H2 => tx σ H2 fun z H3 => ∃ F t ks k d, Ex F H3 ∧ DicO B F a t ks (H3 a) ∧ Rp B F y k ∧ kOkB t k = true ∧ ks.length < sizeLine ∧ Rp B F z d ∧
  (∀ d' v, getK ks k = some d' → Rp B F v d' → Q v H3) ∧ (getK ks k = none → ∀ o', DicO B F a t (putG ks k d) (some o') → Q z (upd H3 a o'))
theorem pe_dgetX {td ty tx : TE} {cpos : Pos} {j : Nat} (hr : Room j X.A) (ho : PE X o td) (he : PE X e ty) (hf : PE X f tx) (m : M2 X o "get" apos e f cpos) : PE X (.Call (.Attribute o "get" apos) [e, f] [] cpos) (tDGetX (bx X) td ty tx) := by
  refine ⟨fun pins s σ H Q I h => ?_⟩
  refine wpAny_Call_method m.base m.few m.line PySem.F.plainAttrs_dict PySem.F.slot_dict_get PySem.F.type_dict_get (thn (ho.run pins s σ H _ I h) fun u s1 ⟨x, H1, I1, rx, a, ex, d, q1⟩ => ?_)
  subst ex
  obtain rfl : u = Value.ref a := rx
  obtain ⟨F, t, ks, ex, hd⟩ := d
  refine ⟨dx_type I1 ex hd, dx_bare I1 ex hd, ?_⟩
  rw [m.trees]
  refine Calls.callWith_builtin rfl (Calls.evalArgs_plain (Calls.spliced_cons (thn (he.run pins s1 σ H1 _ I1 q1) fun iv s2 ⟨y, H2, I2, ry, q2⟩ =>
    Calls.spliced_cons (thn (hf.run pins s2 σ H2 _ I2 q2) fun fv s3 ⟨z, H3, I3, rz, F, t, ks, k, d, ex, hd, hk, ko, hz, q3⟩ => Calls.spliced_nil ?_))))
  exact dx_get2 hr I3 ex hd hk ko ry hz rz fun v w' s4 I4 rw' rv => ⟨v, H3, I4, rw', q3 v rv⟩
theorem pe_dsetX {td ty tx : TE} {cpos : Pos} {j : Nat} (hr : Room j X.A) (ho : PE X o td) (he : PE X e ty) (hf : PE X f tx) (m : M2 X o "setdefault" apos e f cpos) : PE X (.Call (.Attribute o "setdefault" apos) [e, f] [] cpos) (tDSetX (bx X) td ty tx) := by
  refine ⟨fun pins s σ H Q I h => ?_⟩
  refine wpAny_Call_method m.base m.few m.line PySem.F.plainAttrs_dict PySem.F.slot_dict_setdefault PySem.F.type_dict_setdefault (thn (ho.run pins s σ H _ I h) fun u s1 ⟨x, H1, I1, rx, a, ex, d, q1⟩ => ?_)
  subst ex
  obtain rfl : u = Value.ref a := rx
  obtain ⟨F, t, ks, ex, hd⟩ := d
  refine ⟨dx_type I1 ex hd, dx_bare I1 ex hd, ?_⟩
  rw [m.trees]
  refine Calls.callWith_builtin rfl (Calls.evalArgs_plain (Calls.spliced_cons (thn (he.run pins s1 σ H1 _ I1 q1) fun iv s2 ⟨y, H2, I2, ry, q2⟩ =>
    Calls.spliced_cons (thn (hf.run pins s2 σ H2 _ I2 q2) fun fv s3 ⟨z, H3, I3, rz, F, t, ks, k, d, ex, hd, hk, ko, hl, hz, q3, q4⟩ => Calls.spliced_nil ?_))))
  exact dx_setd hr I3 ex hd hk ko hl ry hz rz (fun d' v w' s4 hg I4 rw' rv => ⟨v, H3, I4, rw', q3 d' v hg rv⟩) fun o' s4 hg hd' I4 => ⟨z, _, I4, rz, q4 hg o' hd'⟩
theorem isDX_of {B : Bx} {W : Wd} {m : Hp} {M : Mu} {v : V} {t : Bool} {ks : List (D × D)} {x : D} (k : MOk B W M m) (h : RpR B W.F W.H v x) (z : drf M x = .dic t ks) : ∃ a, v = .ref a ∧ DicO B W.F a t ks (cat W.H m a) := by
  have h' := h.drf k
  rw [z] at h'
  exact h'
theorem de_dget {cpos : Pos} {j : Nat} (hr : Room j X.A) (ho : DR X wx o To) (he : DE X wx e Tk) (hf : DE X wx f Tx) (m : M2 X o "get" apos e f cpos := by exact ⟨rfl, rfl, rfl, rfl⟩) : DE X wx (.Call (.Attribute o "get" apos) [e, f] [] cpos) (dDget To Tk Tx) := by
  obtain ⟨to, po, ro⟩ := ho
  obtain ⟨ti, pi, ri⟩ := he
  obtain ⟨tx, px, rx⟩ := hf
  refine ⟨_, pe_dgetX hr po pi px m, fun W0 W mm σ ρ M Q Qd Ed R mk h1 h2 h3 => ro W0 W mm σ ρ M _ _ Ed R mk h1 (fun dx x W1 m1 M1 q le mk1 hx => ?_) h3⟩
  obtain ⟨t1, ks1, z1, q⟩ := onDicR_of q
  obtain ⟨a, rfl, hd1⟩ := isDX_of mk1 hx z1
  refine ⟨a, rfl, ⟨W1.F, t1, ks1, W1.ok.trans (cat_ex W1.H m1), hd1⟩, ri W0 W1 m1 σ ρ M1 _ _ Ed (R.mono le) mk1 q (fun dk y W2 m2 M2 q2 le2 mk2 hy => ?_) (h3.up le)⟩
  refine rx W0 W2 m2 σ ρ M2 _ _ Ed (R.mono (le.trans le2)) mk2 q2 (fun dd z W3 m3 M3 q3 le3 mk3 hz => ?_) (h3.up (le.trans le2))
  obtain ⟨t, ks, z3, ko, q4⟩ := onDicR_of q3
  obtain ⟨a', e, hd3⟩ := isDX_of mk3 ((hx.le le2).le le3) z3
  cases e
  exact ⟨W3.F, t, ks, dk, dd, W3.ok.trans (cat_ex W3.H m3), hd3, hy.mono le3.f, ko, hz, fun v rv => h2 _ v W3 m3 M3 q4 ((le.trans le2).trans le3) mk3 rv⟩
theorem de_dsetd {cpos : Pos} {j : Nat} (hr : Room j X.A) (ho : DR X wx o To) (he : DE X wx e Tk) (hf : DE X wx f Tx) (m : M2 X o "setdefault" apos e f cpos := by exact ⟨rfl, rfl, rfl, rfl⟩) : DE X wx (.Call (.Attribute o "setdefault" apos) [e, f] [] cpos) (dDsetd To Tk Tx) := by
  obtain ⟨to, po, ro⟩ := ho
  obtain ⟨ti, pi, ri⟩ := he
  obtain ⟨tx, px, rx⟩ := hf
  refine ⟨_, pe_dsetX hr po pi px m, fun W0 W mm σ ρ M Q Qd Ed R mk h1 h2 h3 => ro W0 W mm σ ρ M _ _ Ed R mk h1 (fun dx x W1 m1 M1 q le mk1 hx => ?_) h3⟩
  obtain ⟨t1, ks1, z1, q⟩ := onDicR_of q
  obtain ⟨a, rfl, hd1⟩ := isDX_of mk1 hx z1
  refine ⟨a, rfl, ⟨W1.F, t1, ks1, W1.ok.trans (cat_ex W1.H m1), hd1⟩, ri W0 W1 m1 σ ρ M1 _ _ Ed (R.mono le) mk1 q (fun dk y W2 m2 M2 q2 le2 mk2 hy => ?_) (h3.up le)⟩
  refine rx W0 W2 m2 σ ρ M2 _ _ Ed (R.mono (le.trans le2)) mk2 q2 (fun dd z W3 m3 M3 q3 le3 mk3 hz => ?_) (h3.up (le.trans le2))
  obtain ⟨a', t, ks, rfl, z3, ko, hl, q4⟩ := onDic_of q3
  have ea : a = a' := by cases hx; rfl
  subst ea
  have hn := mk3.hn z3
  have ob := mk3.ok a
  rw [z3] at ob
  have lle := (le.trans le2).trans le3
  unfold setdK at q4
  refine ⟨W3.F, t, ks, dk, dd, W3.ok.trans (cat_ex W3.H m3), by rw [cat_none hn]; exact ob, hy.mono le3.f, ko, hl, hz, fun d' v hg rv => ?_, fun hg o' hd' => ?_⟩
  · rw [hg] at q4
    exact h2 _ v W3 m3 M3 q4 lle mk3 rv
  · rw [hg] at q4
    exact cat_qm (P := Q z) hn (h2 _ z W3 _ _ q4 lle (mk3.put (ob := .dic t (putG ks dk dd)) hn hd') hz)
/-! ### o.m(..), o a list of the store -/
def onLst (M : Mu) (d : D) (K : Addr → List D → Prop) : Prop := match d with
  | .ref a => (match M a with | some (.lst ds) => K a ds | _ => False)
  | _ => False
theorem onLst_of {M : Mu} {d : D} {K : Addr → List D → Prop} (h : onLst M d K) : ∃ a ds, d = .ref a ∧ M a = some (.lst ds) ∧ K a ds := by
  unfold onLst at h
  split at h
  · split at h
    · rename_i z; exact ⟨_, _, rfl, z, h⟩
    · exact h.elim
  · exact h.elim
def dLmX (o : LM) (To : DTE) (R : DTA) : DTE := fun ρ M Q E => To ρ M (fun x M1 => onLst M1 x fun _ _ => R ρ M1 (fun as M2 => onLst M2 x fun a ds => o M2 ds as fun d ds' => Q d (updM M2 a (.lst ds'))) E) E
variable {ms : List Bool} {r : V → List V → Hp → VK → Prop} {lm : LM} {ce : Expr} {R : DTA}
theorem de_lmX (pb : ∀ {to t}, PE X o to → PA X (e :: es) t → PE X ce (tBM X.K "list" r to t)) (hr : RfL (bx X) ms r lm) (ho : DE X wx o To) (ha : DM X wx ms (e :: es) R) : DE X wx ce (dLmX lm To R) := by
  obtain ⟨to, po, ro⟩ := ho
  obtain ⟨t, p, ra⟩ := ha
  refine ⟨_, pb po p, fun W0 W mm σ ρ M Q Qd Ed Re mk h1 h2 h3 => ro W0 W mm σ ρ M _ _ Ed Re mk h1 (fun dx x W1 m1 M1 q le mk1 hx => ?_) h3⟩
  obtain ⟨a, ds1, rfl, z1, q⟩ := onLst_of q
  cases hx
  have ob1 := mk1.ok a
  rw [z1] at ob1
  obtain ⟨vs1, o1, o2⟩ := ob1
  refine ⟨ty_list ((cat_none (mk1.hn z1)).trans o1), ra W0 W1 m1 σ ρ M1 _ _ Ed (Re.mono le) mk1 q (fun as us W2 m2 M2 q2 le2 mk2 hu => ?_) (h3.up le)⟩
  obtain ⟨a', ds, e2, z2, q3⟩ := onLst_of q2
  cases e2
  have ob2 := mk2.ok a
  rw [z2] at ob2
  obtain ⟨vs2, p1, p2⟩ := ob2
  have hn := mk2.hn z2
  have hc : cat W2.H m2 a = some (.lst vs2) := (cat_none hn).trans p1
  refine hr W2 m2 M2 a vs2 ds us as Q _ mk2 hc p2 hu q3 fun d v ds' vs' q4 rv rvs => ?_
  exact cat_qm (P := Q v) hn (h2 d v W2 _ _ q4 (le.trans le2) (mk2.put hn ⟨vs', rfl, rvs⟩) rv)
/-! ### a or b, whatever a is -/
def dOrG (t u : DTE) : DTE := fun ρ M Q E => t ρ M (fun x M' => truD (drf M' x) fun c => if c = true then Q x M' else u ρ M' Q E) E
theorem truV_of {B : Bx} {W : Wd} {m : Hp} {M : Mu} {v : V} {d : D} {Q : Bool → Prop} (k : MOk B W M m) (hv : RpR B W.F W.H v d) (q : truD (drf M d) Q) : ∃ c, TruV B.K v (cat W.H m) c ∧ Q c := by
  have hv := hv.drf k
  have ok := W.ok.trans (cat_ex W.H m)
  rcases truD_of q with ⟨e, q⟩ | ⟨b, e, q⟩ | ⟨i, e, q⟩ | ⟨y, e, hz, q⟩ | ⟨xs, e, q⟩ | ⟨xs, e, q⟩ <;> rw [e] at hv
  · cases hv; exact ⟨_, rfl, q⟩
  · cases hv; exact ⟨_, rfl, q⟩
  · cases hv; exact ⟨_, rfl, q⟩
  · cases hv; exact ⟨_, ⟨hz, rfl⟩, q⟩
  · obtain ⟨a, vs, rfl, h4, h5⟩ := hv; exact ⟨_, .inl ⟨vs, h4, rfl⟩, by rw [isE_of h5]; exact q⟩
  · cases hv with
    | tup h4 h5 => exact ⟨_, .inr (.inl ⟨_, Evl.ex_t ok h4, rfl⟩), by rw [isE_of h5]; exact q⟩
theorem de_orG {rst : List Expr} (ha : DE X wx a Ta) (hb : DE X wx (.BoolOp .Or (b :: rst) pos) Tb) : DE X wx (.BoolOp .Or (a :: b :: rst) pos) (dOrG Ta Tb) := by
  obtain ⟨t, p, r⟩ := ha
  obtain ⟨t', p', r'⟩ := hb
  refine ⟨_, pe_orT p p', fun W0 W m σ ρ M Q Qd Ed R k h1 h2 h3 => r W0 W m σ ρ M _ _ Ed R k h1 (fun d v W' m' M' q le k' hv => ?_) h3⟩
  obtain ⟨c, tv, q⟩ := truV_of (B := bx X) k' hv.rd q
  refine ⟨c, tv, ?_⟩
  cases c with
  | false => exact r' W0 W' m' σ ρ M' _ _ Ed (R.mono le) k' q (fun c' v' W'' m'' M'' q2 le2 => h2 c' v' W'' m'' M'' q2 (le.trans le2)) (h3.up le)
  | true => exact h2 d v W' m' M' q le k' hv
/-! ### names that were lent -/
/-- as a value: a list is told by where it stands alone -/
def dVarP (i : Nat) : DTE := fun ρ M Q _ => match ga ρ i with
  | .dat d => Q d M
  | .bor (.lst _) => ∀ a, Q (.ref a) M
  | .bor .non => Q .non M
  | .bor (.tup ds) => Q (.tup ds) M
  | _ => False
theorem de_varP (i : Nat) {x : Str} (hN : X.N[i]? = some x := by rfl) (hv : Vis X.env.scope x := by first | exact Or.inl rfl | exact Or.inr (Or.inl rfl) | exact Or.inr (Or.inr rfl)) (hd : (x == ("__debug__" : Str)) = false := by decide)
    (hcd : (x == ("__classdict__" : Str)) = false := by decide) : DE X wx (.Name x pos) (dVarP i) := by
  refine ⟨_, pe_var hN hv hd hcd, fun W0 W m σ ρ M Q Qd Ed R k h1 h2 h3 => ?_⟩
  unfold dVarP at h1
  obtain ⟨le, _, ad, _, h4⟩ := id R
  have q := h4 i
  split at h1
  · rename_i d z
    obtain ⟨v, e, r⟩ := R.dat z
    exact ⟨v, e, h2 d v W m M h1 (Wd.le.refl W) k r⟩
  · rename_i ds z
    rw [z] at q
    obtain ⟨v, q1, q2⟩ := q
    have : ∃ b, v = .ref b := by
      rcases q2 with ⟨b, vs, e1, e2, e3⟩ | q2
      · exact ⟨b, e1⟩
      · cases q2 with
        | lst e2 e3 => exact ⟨_, rfl⟩
    obtain ⟨b, rfl⟩ := this
    exact ⟨_, q1, h2 _ _ W m M (h1 b) (Wd.le.refl W) k (.ref b)⟩
  · rename_i z
    rw [z] at q
    obtain ⟨v, q1, q2⟩ := q
    have q2 : Rp (bx X) W.F v .non := q2.elim (fun z => z) id
    exact ⟨_, q1, h2 _ _ W m M h1 (Wd.le.refl W) k q2⟩
  · rename_i ds z
    rw [z] at q
    obtain ⟨v, q1, q2⟩ := q
    have q2 : Rp (bx X) W.F v (.tup ds) := q2.elim (fun z => z) id
    exact ⟨_, q1, h2 _ _ W m M h1 (Wd.le.refl W) k q2⟩
  · exact h1.elim
/-- over a list or a tuple that was lent -/
def dItC (i : Nat) : DTA := fun ρ M Q _ => match ga ρ i with | .bor (.lst ds) => Q ds M | .dat (.lst ds) => Q ds M | .bor (.tup ds) => Q ds M | .dat (.tup ds) => Q ds M | _ => False
theorem di_borC {tg : Expr} (i : Nat) {x : Str} (hN : X.N[i]? = some x := by rfl) (hv : Vis X.env.scope x := by first | exact Or.inl rfl | exact Or.inr (Or.inl rfl) | exact Or.inr (Or.inr rfl)) (hd : (x == ("__debug__" : Str)) = false := by decide)
    (hcd : (x == ("__classdict__" : Str)) = false := by decide) : DI X wx tg (.Name x pos) (dItC i) := by
  refine ⟨_, pi_any (pe_var hN hv hd hcd), fun W0 W m σ ρ M Q Qd Ed R mk h1 h2 h3 => ?_⟩
  unfold dItC at h1
  obtain ⟨le, _, ad, _, h4⟩ := id R
  have q := h4 i
  have tups : ∀ v ds, Rp (bx X) W.F v (.tup ds) → Qd ds M → σ[i]? = some (some v) → iAny (bx X) (tVar i) σ (cat W.H m) Q := fun v ds hv h1 e => by
    cases hv with
    | tup h4 h5 => exact ⟨_, e, .inr (.inl ⟨_, rfl, ⟨_, Evl.ex_t (W.ok.trans (cat_ex W.H m)) h4⟩, h2 ds _ W m M h1 (Wd.le.refl W) mk (itt_ok (B := bx X) (fun W'' _ ex => Evl.ex_t W''.ok (Evl.ex_t ex h4)) h5)⟩)⟩
  split at h1
  · rename_i ds z
    rw [z] at q
    obtain ⟨v, q1, q2⟩ := q
    have : ∃ b vs, v = .ref b ∧ (SqL X.K W0.H b vs ∨ SqL X.K W.F b vs) ∧ RpAll (bx X) W.F vs ds := by
      rcases q2 with ⟨b, vs, e1, e2, e3⟩ | q2
      · exact ⟨b, vs, e1, .inl e2, e3⟩
      · cases q2 with
        | lst e2 e3 => exact ⟨_, _, rfl, .inr e2, e3⟩
    obtain ⟨b, vs, rfl, q2, q3⟩ := this
    have hs : ∀ W', W0.le W' → Ex W.F W'.F → SqL X.K W'.H b vs := fun W' l ex => q2.elim (Evl.ex_l l.h) fun z => Evl.ex_l W'.ok (Evl.ex_l ex z)
    exact ⟨_, q1, .inl ⟨_, rfl, ⟨_, Evl.ex_l (cat_ex W.H m) (hs W le (Ex.refl _))⟩, h2 _ _ W m M h1 (Wd.le.refl W) mk (itl_ok (B := bx X) hs q3)⟩⟩
  · rename_i ds z
    rw [z] at q
    obtain ⟨v, q1, q2⟩ := q
    cases q2 with
    | lst h4 h5 => exact ⟨_, q1, .inl ⟨_, rfl, ⟨_, Evl.ex_l (W.ok.trans (cat_ex W.H m)) h4⟩, h2 _ _ W m M h1 (Wd.le.refl W) mk (itl_ok (B := bx X) (fun W'' _ ex => Evl.ex_l W''.ok (Evl.ex_l ex h4)) h5)⟩⟩
  · rename_i ds z
    rw [z] at q
    obtain ⟨v, q1, q2⟩ := q
    exact tups v ds (q2.elim (fun z => z) id) h1 q1
  · rename_i ds z
    rw [z] at q
    obtain ⟨v, q1, q2⟩ := q
    exact tups v ds q2 h1 q1
  · exact h1.elim
end
/-! ### a dict of the store and the things that its values point to are frozen -/
def refsOf : List (D × D) → List Addr
  | [] => []
  | (_, .ref a) :: r => a :: refsOf r
  | _ :: r => refsOf r
theorem refs_mem : ∀ {ks : List (D × D)} {p : D × D} {a : Addr}, p ∈ ks → p.2 = .ref a → a ∈ refsOf ks
  | (k, d) :: r, p, a, h, e => by
    rcases List.mem_cons.mp h with rfl | h
    · dsimp only at e
      subst e
      exact List.mem_cons_self
    · have := refs_mem h e
      unfold refsOf
      split
      · rename_i z; cases z
      · rename_i z; cases z; exact List.mem_cons_of_mem _ this
      · rename_i z; cases z; exact this
def lessM (M : Mu) (bs : List Addr) : Mu := fun b => if b ∈ bs then none else M b
theorem obD_drf (b : Addr) (ob : Ob) : obD ob = drfO b (some ob) := by cases ob <;> rfl
theorem MOk.freezeL {B : Bx} {M : Mu} : ∀ (bs : List Addr) {W : Wd} {m : Hp}, MOk B W M m → ∃ W' m', cat W'.H m' = cat W.H m ∧ W.le W' ∧ MOk B W' (lessM M bs) m' ∧ ∀ b ∈ bs, ∀ ob, M b = some ob → Rp B W'.F (.ref b) (obD ob)
  | [], W, m, h => ⟨W, m, rfl, Wd.le.refl W, by
      have e : lessM M [] = M := by funext b; simp [lessM]
      rw [e]; exact h, fun b hb => by simp at hb⟩
  | b :: r, W, m, h => by
    obtain ⟨W1, m1, e1, le1, k1, p1⟩ := MOk.freezeL r h
    by_cases hb : b ∈ r
    · have e : lessM M (b :: r) = lessM M r := by
        funext x
        unfold lessM
        by_cases z : x = b
        · subst z; simp [hb]
        · simp [z]
      rw [e]
      refine ⟨W1, m1, e1, le1, k1, fun x hx ob eo => ?_⟩
      rcases List.mem_cons.mp hx with rfl | hx
      · exact p1 _ hb ob eo
      · exact p1 x hx ob eo
    · cases y : M b with
      | none =>
        have e : lessM M (b :: r) = lessM M r := by
          funext x
          unfold lessM
          by_cases z : x = b
          · subst z; simp [y]
          · simp [z]
        rw [e]
        refine ⟨W1, m1, e1, le1, k1, fun x hx ob eo => ?_⟩
        rcases List.mem_cons.mp hx with rfl | hx
        · rw [y] at eo; cases eo
        · exact p1 x hx ob eo
      | some ob =>
        have y1 : lessM M r b = some ob := by unfold lessM; rw [if_neg hb]; exact y
        obtain ⟨W2, m2, e2, le2, k2, rp⟩ := k1.freezeA y1
        have e : lessM M (b :: r) = delM (lessM M r) b := by
          funext x
          unfold lessM delM
          by_cases z : x = b
          · subst z; simp
          · simp [z]
        rw [e]
        refine ⟨W2, m2, e2.trans e1, le1.trans le2, k2, fun x hx ob' eo => ?_⟩
        rcases List.mem_cons.mp hx with rfl | hx
        · rw [y] at eo; cases eo; exact rp
        · exact (p1 x hx ob' eo).mono le2.f
theorem thaw_rp {B : Bx} {F F' : Hp} {M : Mu} {bs : List Addr} (ex : Ex F F') (h : ∀ b ∈ bs, ∀ ob, M b = some ob → Rp B F' (.ref b) (obD ob)) {v : V} {d : D} (r : Rp B F v d) (hb : ∀ a, d = .ref a → a ∈ bs) : Rp B F' v (drf M d) := by
  cases d with
  | ref a =>
    cases r
    show Rp B F' (.ref a) (drfO a (M a))
    cases z : M a with
    | none => exact .ref a
    | some ob => rw [← obD_drf]; exact h a (hb a rfl) ob z
  | _ => exact r.mono ex
theorem thaw_k {B : Bx} {F F' : Hp} {M : Mu} {bs : List Addr} (ex : Ex F F') (h : ∀ b ∈ bs, ∀ ob, M b = some ob → Rp B F' (.ref b) (obD ob)) : ∀ {kv : List (Key × V)} {ks : List (D × D)}, RpK B F kv ks → (∀ p ∈ ks, ∀ a, p.2 = .ref a → a ∈ bs) → RpK B F' kv (ks.map fun p => (p.1, drf M p.2))
  | _, _, .nil, _ => .nil
  | _, _, .cons r t, hb => .cons (thaw_rp ex h r fun a e => hb _ List.mem_cons_self a e) (thaw_k ex h t fun p hp => hb p (List.mem_cons_of_mem _ hp))
theorem thaw_x {B : Bx} {F F' : Hp} {M : Mu} {bs : List Addr} (ex : Ex F F') (h : ∀ b ∈ bs, ∀ ob, M b = some ob → Rp B F' (.ref b) (obD ob)) : ∀ {kv : List (NestedKey × Addr × Value)} {ks : List (D × D)}, RpX B F kv ks → (∀ p ∈ ks, ∀ a, p.2 = .ref a → a ∈ bs) → RpX B F' kv (ks.map fun p => (p.1, drf M p.2))
  | _, _, .nil, _ => .nil
  | _, _, .cons hc hn h8 hr r t, hb => .cons (hc.mono ex) hn h8 hr (thaw_rp ex h r fun a e => hb _ List.mem_cons_self a e) (thaw_x ex h t fun p hp => hb p (List.mem_cons_of_mem _ hp))
section
variable {X : Cx} {wx : WX} {st : Stmt} {S : DTS}
def dFrzD (i : Nat) (S : DTS) : DTS := fun DD ρ M => match ga ρ i with
  | .dat (.ref a) => (match M a with | some (.dic t ks) => a ∉ refsOf ks ∧ S DD (ρ.set i (.dat (.dic t (ks.map fun p => (p.1, drf M p.2))))) (lessM M (a :: refsOf ks)) | _ => False)
  | _ => False
theorem rf_frzD {B : Bx} {t : TS} (i : Nat) (r : RfS B wx t S) : RfS B wx t (dFrzD i S) := fun W0 W m σ ρ M D DD R mk h k => by
  unfold dFrzD at h
  split at h
  · rename_i a z
    split at h
    · rename_i tt ks y
      obtain ⟨ha, h⟩ := h
      obtain ⟨W1, m1, e1, le1, k1, p1⟩ := mk.freezeL (refsOf ks)
      have y1 : lessM M (refsOf ks) a = some (.dic tt ks) := by unfold lessM; rw [if_neg ha]; exact y
      have o1 := k1.ok a
      rw [y1] at o1
      obtain ⟨W2, m2, e2, le2, k2, rp⟩ := k1.freezeA (ob := .dic tt ks) y1
      have hb : ∀ p ∈ ks, ∀ b, p.2 = .ref b → b ∈ refsOf ks := fun p hp b e => refs_mem hp e
      have p2 : ∀ b ∈ refsOf ks, ∀ ob, M b = some ob → Rp B W2.F (.ref b) (obD ob) := fun b hb ob eo => (p1 b hb ob eo).mono le2.f
      have rp2 : Rp B W2.F (.ref a) (.dic tt (ks.map fun p => (p.1, drf M p.2))) := by
        cases rp with
        | dic h4 h5 => exact .dic h4 (thaw_k (Ex.refl _) p2 h5 hb)
        | dit h4 h5 => exact .dit h4 (thaw_x (Ex.refl _) p2 h5 hb)
      obtain ⟨v, e3, rv⟩ := R.dat z
      cases rv
      have R' := (R.mono (le1.trans le2)).set (i := i) rp2
      rw [set_same e3] at R'
      have e : lessM M (a :: refsOf ks) = delM (lessM M (refsOf ks)) a := by
        funext x
        unfold lessM delM
        by_cases z : x = a
        · subst z; simp
        · simp [z]
      rw [e] at h
      have q := r W0 W2 m2 σ _ _ D DD R' k2 h k
      rw [e2, e1] at q
      exact q
    · exact h.elim
  · exact h.elim
theorem ds_frzD (i : Nat) (h : DS X wx st S) : DS X wx st (dFrzD i S) := by
  obtain ⟨t, p, r⟩ := h
  exact ⟨t, p, rf_frzD i r⟩
end
/-! ### a def that leaves things behind in the store -/
def leM (M2 M : Mu) : Prop := ∀ b ob, M2 b = some ob → M b = some ob
theorem leM.refl (M : Mu) : leM M M := fun _ _ h => h
theorem leM.trans {M1 M2 M3 : Mu} (h : leM M1 M2) (h2 : leM M2 M3) : leM M1 M3 := fun b ob z => h2 b ob (h b ob z)
theorem leM.upd {M : Mu} {a : Addr} {o : Ob} (h : M a = none) : leM M (updM M a o) := fun b ob z => by
  rw [updM_ne (fun y => by subst y; rw [h] at z; cases z)]; exact z
def endsW (Q : D → Mu → Prop) (E : Str → Mu → Prop) : DEnds := ⟨fun _ M => ∃ M2, leM M2 M ∧ Q .non M2, fun d M => ∃ M2, leM M2 M ∧ Q d M2, fun _ _ => False, fun _ _ => False, fun C _ M => ∃ M2, leM M2 M ∧ E C M2⟩
theorem fnok_ofW {B : Bx} {base : Heap} {x qual : Str} {pm : Arguments} {bd : List Stmt} {sc : Scope} {dvs : List V} {kws : List (Str × V)} {f : Addr} {fd : FuncData} {N ps : List Str} {ms : List Bool} {sp : SpM} {T : DTS} {k : Nat} (F : FunD B.K x qual pm bd sc dvs kws f fd) (S : FnScope N ps sc)
    (body : ∀ (cdv : Value) (A : Around) (outer : List Env) (s : Shared) (H : Hp) (E : XK), Room k (cxF B base N qual sc f cdv A outer s H E).A → Takes (cxF B base N qual sc f cdv A outer s H E) (wxF E) →
      PassesOwn (model B.P B.w) (cxF B base N qual sc f cdv A outer s H E).A (cxF B base N qual sc f cdv A outer s H E).env (cxF B base N qual sc f cdv A outer s H E).xe →
      DSs (cxF B base N qual sc f cdv A outer s H E) (wxF E) bd T)
    (spec : ∀ ds M Q E, sp ds M Q E → T (endsW Q E) (startE ms N.length ds) M) (hl : ms.length = ps.length := by rfl) : FnB B base (k + 1) f fd ps ms sp := by
  refine F.ok S (fun vs H Q E h => ?_) (fun cdv A outer s H vs Q E hr h => ?_)
  · obtain ⟨W, m, M, ds, Qd, Ed, _, _, hA, _⟩ := h
    rw [ms_len hA, hl]
  · obtain ⟨W, m, M, ds, Qd, Ed, rfl, mk, hA, hsp, h1, h2⟩ := h
    obtain ⟨t, p, r⟩ := body cdv A outer s (cat W.H m) E hr (takes_of rfl rfl rfl rfl) (passes_of rfl)
    refine ⟨t, p, ?_⟩
    have hp : ps.length ≤ N.length := by
      have := congrArg List.length S.pre
      rw [List.length_take] at this
      omega
    refine r W W m _ _ M _ _ (rel_start hA (by rw [ms_len hA, hl]; exact hp)) mk (spec ds M Qd Ed hsp) ⟨fun W' m' σ ρ M' R mk' q => ?_, fun d v W' m' M' le mk' rv q => ?_, fun _ _ _ _ _ _ _ q => q.elim, fun _ _ _ _ _ _ _ q => q.elim, fun C W' m' σ ρ M' R mk' q => ?_⟩
    · obtain ⟨M2, l, q⟩ := q
      exact h1 .non .non W' m' M2 q R.le (mk'.weak l) .non
    · obtain ⟨M2, l, q⟩ := q
      exact h1 d v W' m' M2 q le (mk'.weak l) rv
    · obtain ⟨M2, l, q⟩ := q
      exact h2 C W' m' M2 q R.le (mk'.weak l)
end Z

namespace Z
open PySem L2

/-! ### fractions -/
/-- a fraction as data -/
def fD (p : Rat) : D := .tup [.int p.num, .int (p.den : Int)]
theorem frac_parts {a b : Int} (hb : b ≠ 0) : ∃ m : Int, m ≠ 0 ∧ a = (Rat.divInt a b).num * m ∧ b = ((Rat.divInt a b).den : Int) * m ∧ (if b < 0 then -(Int.gcd a b : Int) else (Int.gcd a b : Int)) = m := by
  obtain ⟨m, m0, e1, e2⟩ := Rat.divInt_num_den (n := a) (d := b) (n' := (Rat.divInt a b).num) (d' := (Rat.divInt a b).den) (z' := (Rat.divInt a b).den_nz) (c := (Rat.divInt a b).reduced) hb rfl
  refine ⟨m, m0, e1, e2, ?_⟩
  have hg : Int.gcd a b = m.natAbs := by
    have h : Int.gcd a b = Int.gcd ((Rat.divInt a b).num * m) (((Rat.divInt a b).den : Int) * m) := by rw [← e1, ← e2]
    rw [h, Int.gcd_mul_right]
    have h1 : Int.gcd (Rat.divInt a b).num ((Rat.divInt a b).den : Int) = 1 := by
      have := (Rat.divInt a b).reduced
      simpa [Int.gcd, Nat.Coprime] using this
    rw [h1, Nat.one_mul]
  have hd : (0 : Int) < ((Rat.divInt a b).den : Int) := by
    have := (Rat.divInt a b).den_nz
    omega
  rw [hg]
  by_cases hn : b < 0
  · rw [if_pos hn]
    have hm : m < 0 := by
      rcases Int.lt_trichotomy m 0 with h | h | h
      · exact h
      · exact absurd h m0
      · have := Int.mul_pos hd h
        omega
    omega
  · rw [if_neg hn]
    have hm : 0 < m := by
      rcases Int.lt_trichotomy m 0 with h | h | h
      · have := Int.mul_neg_of_pos_of_neg hd h
        omega
      · exact absurd h m0
      · exact h
    omega
theorem frac_fdiv {a b : Int} (hb : b ≠ 0) : let s := (if b < 0 then -(Int.gcd a b : Int) else (Int.gcd a b : Int)); s ≠ 0 ∧ a.fdiv s = (Rat.divInt a b).num ∧ b.fdiv s = ((Rat.divInt a b).den : Int) := by
  obtain ⟨m, m0, e1, e2, e3⟩ := frac_parts (a := a) hb
  intro s
  have : s = m := e3
  rw [this]
  refine ⟨m0, ?_, ?_⟩
  · have := Int.mul_fdiv_cancel (Rat.divInt a b).num m0
    rw [← e1] at this; exact this
  · have := Int.mul_fdiv_cancel ((Rat.divInt a b).den : Int) m0
    rw [← e2] at this; exact this
theorem den_pos (p : Rat) : (0 : Int) < (p.den : Int) := by
  have := p.den_nz
  omega
/-- what is in lowest terms is its own fraction -/
theorem divInt_self_parts (p : Rat) : Rat.divInt p.num (p.den : Int) = p := by rw [Rat.divInt_ofNat, Rat.mkRat_self]
theorem divInt_cross {a b : Int} (hb : b ≠ 0) : (Rat.divInt a b).num * b = a * ((Rat.divInt a b).den : Int) := by
  obtain ⟨m, m0, e1, e2, _⟩ := frac_parts (a := a) hb
  generalize (Rat.divInt a b).num = n at *
  generalize ((Rat.divInt a b).den : Int) = d at *
  subst e1 e2
  rw [Int.mul_comm d m, ← Int.mul_assoc]
/-- sizes -/
theorem Sm.mono {i j : Int} (h : Sm j) (e : i.natAbs ≤ j.natAbs) : Sm i := Nat.lt_of_le_of_lt e h
theorem sm_of {i : Int} {n : Nat} (h : i.natAbs < 2 ^ n) (hn : n ≤ 9000 := by decide) : Sm i := Nat.lt_of_lt_of_le h (Nat.pow_le_pow_right (by decide) hn)
theorem gcd_natAbs_le {a b : Int} (hb : b ≠ 0) : Int.gcd a b ≤ b.natAbs := Nat.le_of_dvd (by omega) (Int.gcd_dvd_natAbs_right a b)
theorem Sm.gcd {a b : Int} (hb : b ≠ 0) (h : Sm b) : Sm (if b < 0 then -(Int.gcd a b : Int) else (Int.gcd a b : Int)) := by
  refine h.mono ?_
  have := gcd_natAbs_le (a := a) hb
  split <;> omega
theorem sm_num {a b : Int} (hb : b ≠ 0) (h : Sm a) : Sm (Rat.divInt a b).num := by
  obtain ⟨m, m0, e1, e2, _⟩ := frac_parts (a := a) hb
  refine h.mono ?_
  have e := congrArg Int.natAbs e1
  rw [Int.natAbs_mul] at e
  rw [e]
  exact Nat.le_mul_of_pos_right _ (by omega)
theorem sm_den {a b : Int} (hb : b ≠ 0) (h : Sm b) : Sm ((Rat.divInt a b).den : Int) := by
  obtain ⟨m, m0, e1, e2, _⟩ := frac_parts (a := a) hb
  refine h.mono ?_
  have e := congrArg Int.natAbs e2
  rw [Int.natAbs_mul] at e
  rw [e]
  exact Nat.le_mul_of_pos_right _ (by omega)
theorem mul_bd {a b A B : Int} (h0 : 0 ≤ a) (h1 : a ≤ A) (h2 : 0 ≤ b) (h3 : b ≤ B) : 0 ≤ a * b ∧ a * b ≤ A * B :=
  ⟨Int.mul_nonneg h0 h2, Int.mul_le_mul h1 h3 h2 (by omega)⟩
theorem sm_mul {a b : Int} {m n : Nat} (h1 : a.natAbs < 2 ^ m) (h2 : b.natAbs < 2 ^ n) (hn : m + n ≤ 9000) : Sm (a * b) := by
  refine sm_of (n := m + n) ?_ hn
  rw [Int.natAbs_mul, Nat.pow_add]
  exact Nat.mul_lt_mul'' h1 h2
theorem sm_lit {i : Int} (h1 : -(2 ^ 200) < i) (h2 : i < 2 ^ 200) : Sm i := sm_of (n := 200) (by omega)
theorem gcd_emod (x y : Nat) : Nat.gcd y (x % y) = Nat.gcd x y := by rw [Nat.gcd_comm, ← Nat.gcd_rec, Nat.gcd_comm]
end Z

namespace Z
open PySem L2

/-! ### readings at work: rules to compute with -/
section
variable {M : Mu} {Q : D → Prop} {i j : Int} {x y : Str} {xs ys : List D} {a b : Bool} {n : Str} {fs : List (Str × D)} {ks : List (D × D)} {s : String}

theorem drf_int : drf M (.int i) = (.int i) := rfl
theorem drf_str : drf M (.str x) = (.str x) := rfl
theorem drf_bl : drf M (.bl a) = (.bl a) := rfl
theorem drf_non : drf M .non = .non := rfl
theorem drf_lst : drf M (.lst xs) = (.lst xs) := rfl
theorem drf_tup : drf M (.tup xs) = (.tup xs) := rfl
theorem drf_obj : drf M (.obj n fs) = (.obj n fs) := rfl
theorem drf_dic : drf M (.dic a ks) = (.dic a ks) := rfl
theorem drf_cls : drf M (.cls n) = (.cls n) := rfl
theorem drf_exc : drf M (.exc n) = (.exc n) := rfl
theorem drf_ty : drf M (.ty s) = (.ty s) := rfl
theorem ofS_inj {s t : String} : (Str.ofString s = Str.ofString t) = (s = t) := propext ⟨fun h => by
  have e := congrArg (fun x : Str => x.cps.toList) h
  have e1 : s.toList.map Char.toNat = t.toList.map Char.toNat := (TL.tl_ofString s).symm.trans (e.trans (TL.tl_ofString t))
  have inj : ∀ {a b : List Char}, a.map Char.toNat = b.map Char.toNat → a = b := fun {a b} h => by
    induction a generalizing b with
    | nil => cases b with | nil => rfl | cons _ _ => cases h
    | cons x a ih => cases b with
      | nil => cases h
      | cons y b =>
        rw [List.map_cons, List.map_cons] at h
        injection h with h1 h2
        rw [ih h2]
        congr 1
        exact Char.ext (UInt32.toNat_inj.mp h1)
  exact String.toList_inj.mp (inj e1), fun h => by rw [h]⟩
theorem mem_ofS {s t : String} {l : List Str} : (Str.ofString s ∈ Str.ofString t :: l) = (s = t ∨ Str.ofString s ∈ l) := by rw [List.mem_cons, ofS_inj]
theorem mem_ofS0 {s : String} : (Str.ofString s ∈ ([] : List Str)) = False := by simp
theorem putD_nil {f : Str} {d : D} : putD f d [] = [(f, d)] := rfl
theorem putD_cons {f g : Str} {d x : D} {r : List (Str × D)} : putD f d ((g, x) :: r) = if g = f then (g, d) :: r else (g, x) :: putD f d r := rfl
variable {adr : Addr} {tt : Bool}
theorem drf_ref : drf M (.ref adr) = drfO adr (M adr) := rfl
theorem drfO_dic : drfO adr (some (.dic tt ks)) = .dic tt ks := rfl
theorem drfO_lst : drfO adr (some (.lst xs)) = .lst xs := rfl
theorem drfO_ins : drfO adr (some (.ins n fs)) = .obj n fs := rfl
theorem drfO_non : drfO adr none = .ref adr := rfl
theorem oLen_d : oLen [.dic tt ks] Q = Q (.int ks.length) := rfl
theorem oIn_d : oIn (.str x) (.dic tt ks) Q = (kOkB tt (.str x) = true ∧ Q (.bl (getK ks (.str x)).isSome)) := rfl
theorem oNotIn_d : oNotIn (.str x) (.dic tt ks) Q = (kOkB tt (.str x) = true ∧ Q (.bl (!(getK ks (.str x)).isSome))) := rfl
theorem oIn_dt : oIn (.tup xs) (.dic tt ks) Q = (kOkB tt (.tup xs) = true ∧ Q (.bl (getK ks (.tup xs)).isSome)) := rfl
theorem oNotIn_dt : oNotIn (.tup xs) (.dic tt ks) Q = (kOkB tt (.tup xs) = true ∧ Q (.bl (!(getK ks (.tup xs)).isSome))) := rfl
theorem kOkB_s : kOkB false (.str x) = true := rfl
theorem kOkB_i : kOkB false (.int i) = true := rfl
theorem oAdd_i : oAdd (.int i) (.int j) Q = Q (.int (i + j)) := rfl
theorem oAdd_s : oAdd (.str x) (.str y) Q = (x.length + y.length ≤ sizeLine ∧ Q (.str (x ++ y))) := rfl
theorem oAdd_t : oAdd (.tup xs) (.tup ys) Q = (xs.length + ys.length ≤ sizeLine ∧ Q (.tup (xs ++ ys))) := rfl
theorem oAdd_l : oAdd (.lst xs) (.lst ys) Q = (xs.length + ys.length ≤ sizeLine ∧ Q (.lst (xs ++ ys))) := rfl
theorem oSub_i : oSub (.int i) (.int j) Q = Q (.int (i - j)) := rfl
theorem oMul_i : oMul (.int i) (.int j) Q = (Sm i ∧ Sm j ∧ Q (.int (i * j))) := rfl
theorem oMulA_i : oMulA (.int i) (.int j) Q = (Sm i ∧ Sm j ∧ Q (.int (i * j))) := rfl
theorem oMulA_s : oMulA (.str x) (.int j) Q = (0 ≤ j ∧ j < 2 ^ 30 ∧ x.length * j.toNat ≤ sizeLine ∧ Q (.str (repS x j.toNat))) := rfl
theorem oFdiv_i : oFdiv (.int i) (.int j) Q = (j ≠ 0 ∧ Sm j ∧ Q (.int (i.fdiv j))) := rfl
theorem oMod_i : oMod (.int i) (.int j) Q = (j ≠ 0 ∧ Q (.int (i.fmod j))) := rfl
theorem oPow_i : oPow (.int i) (.int j) Q = (CPow i j ∧ Q (.int (i ^ j.toNat))) := rfl
theorem oLt_i : oLt (.int i) (.int j) Q = Q (.bl (decide (i < j))) := rfl
theorem oLe_i : oLe (.int i) (.int j) Q = Q (.bl (decide (i ≤ j))) := rfl
theorem oGt_i : oGt (.int i) (.int j) Q = Q (.bl (decide (j < i))) := rfl
theorem oGe_i : oGe (.int i) (.int j) Q = Q (.bl (decide (j ≤ i))) := rfl
theorem oEq_i : oEq (.int i) (.int j) Q = Q (.bl (decide (i = j))) := rfl
theorem oEq_s : oEq (.str x) (.str y) Q = Q (.bl (decide (x = y))) := rfl
theorem oEq_b : oEq (.bl a) (.bl b) Q = Q (.bl (decide (a = b))) := rfl
theorem oEq_nn : oEq .non .non Q = Q (.bl (true)) := rfl
theorem oEq_ni : oEq .non (.int i) Q = Q (.bl (false)) := rfl
theorem oEq_in : oEq (.int i) .non Q = Q (.bl (false)) := rfl
theorem oEq_ns : oEq .non (.str x) Q = Q (.bl (false)) := rfl
theorem oEq_sn : oEq (.str x) .non Q = Q (.bl (false)) := rfl
theorem oNe_i : oNe (.int i) (.int j) Q = Q (.bl (!decide (i = j))) := rfl
theorem oNe_s : oNe (.str x) (.str y) Q = Q (.bl (!decide (x = y))) := rfl
theorem oNe_b : oNe (.bl a) (.bl b) Q = Q (.bl (!decide (a = b))) := rfl
theorem oNe_nn : oNe .non .non Q = Q (.bl (!true)) := rfl
theorem oNe_ni : oNe .non (.int i) Q = Q (.bl (!false)) := rfl
theorem oNe_in : oNe (.int i) .non Q = Q (.bl (!false)) := rfl
theorem oNe_ns : oNe .non (.str x) Q = Q (.bl (!false)) := rfl
theorem oNe_sn : oNe (.str x) .non Q = Q (.bl (!false)) := rfl
theorem oIsN_ {d : D} : oIsN d .non Q = Q (.bl d.isNon) := propext ⟨fun h => h.2, fun h => ⟨rfl, h⟩⟩
theorem oNotN_ {d : D} : oNotN d .non Q = Q (.bl (!d.isNon)) := propext ⟨fun h => h.2, fun h => ⟨rfl, h⟩⟩
theorem isNon_int : D.isNon (.int i) = false := rfl
theorem isNon_str : D.isNon (.str x) = false := rfl
theorem isNon_bl : D.isNon (.bl a) = false := rfl
theorem isNon_non : D.isNon .non = true := rfl
theorem isNon_lst : D.isNon (.lst xs) = false := rfl
theorem isNon_tup : D.isNon (.tup xs) = false := rfl
theorem isNon_obj : D.isNon (.obj n fs) = false := rfl
theorem isNon_exc : D.isNon (.exc n) = false := rfl
theorem isNon_dic : D.isNon (.dic a ks) = false := rfl
theorem oLen_s : oLen [.str x] Q = (x.length ≤ sizeLine ∧ Q (.int x.length)) := rfl
theorem oLen_l : oLen [.lst xs] Q = Q (.int xs.length) := rfl
theorem oLen_t : oLen [.tup xs] Q = Q (.int xs.length) := rfl
theorem oAbs_ : oAbs [.int i] Q = Q (.int (if i < 0 then -i else i)) := rfl
theorem oMax2_ : oMax2 [.int i, .int j] Q = Q (.int (if j > i then j else i)) := rfl
theorem oMin2_ : oMin2 [.int i, .int j] Q = Q (.int (if j < i then j else i)) := rfl
theorem oInt1_i : oInt1 [.int i] Q = Q (.int i) := rfl
theorem oInt1_b : oInt1 [.bl a] Q = Q (.int (if a then 1 else 0)) := rfl
theorem oInt1_s : oInt1 [.str x] Q = (∃ n, PySem.intText? x = some n ∧ x.length ≤ 640 ∧ Q (.int n)) := rfl
theorem oStr1_ : oStr1 [.int i] Q = (i.natAbs.log2 < 1920 ∧ Q (.str (toString i))) := rfl
theorem oTuple1_l : oTuple1 [.lst xs] Q = Q (.tup xs) := rfl
theorem oTuple1_t : oTuple1 [.tup xs] Q = Q (.tup xs) := rfl
variable {QL : List D → Prop} {QB : Bool → Prop} {PS : Str → Prop} {oi oj : Option Int}
theorem oList1_l : oList1 [.lst xs] QL = QL xs := rfl
theorem oList1_t : oList1 [.tup xs] QL = QL xs := rfl
theorem oCat_l : oCat (.lst xs) (.lst ys) QL = (xs.length + ys.length ≤ sizeLine ∧ QL (xs ++ ys)) := rfl
theorem truD_n : truD .non QB = QB false := rfl
theorem truD_b : truD (.bl a) QB = QB a := rfl
theorem truD_i : truD (.int i) QB = QB (i != 0) := rfl
theorem truD_s : truD (.str x) QB = (x.length ≤ sizeLine ∧ QB ((x.length : Int) != 0)) := rfl
theorem truD_l : truD (.lst xs) QB = QB (!xs.isEmpty) := rfl
theorem truD_t : truD (.tup xs) QB = QB (!xs.isEmpty) := rfl
theorem onStr_s : onStr (.str x) PS = PS x := rfl
theorem soStarts_ : soStarts x [.str y] Q = (True ∧ Q (.bl (Txt.startswith x y))) := rfl
theorem soUpper_ : soUpper x [] Q = (x.length ≤ 5592405 ∧ Q (.str (Txt.upper x))) := rfl
theorem soLower_ : soLower x [] Q = (x.length ≤ 5592405 ∧ Q (.str (Txt.lower x))) := rfl
theorem soIsupper_ : soIsupper x [] Q = (True ∧ Q (.bl (Txt.isupper x))) := rfl
theorem soFind_ : soFind x [.str y] Q = (True ∧ Q (.int (Txt.find x y))) := rfl
theorem soStrip_ : soStrip x [.str y] Q = (x.length ≤ sizeLine ∧ Q (.str (Txt.stripChars x y))) := rfl
theorem soPart_ : soPart x [.str y] Q = ((y.length == 0) = false ∧ x.length ≤ sizeLine ∧ Q (.tup [.str (Txt.partition x y).1, .str (Txt.partition x y).2.1, .str (Txt.partition x y).2.2])) := rfl
theorem soSplit_ : soSplit x [.str y] Q = ((y.length == 0) = false ∧ x.length + 2 ≤ sizeLine ∧ Q (.lst ((Txt.split x y).map .str))) := rfl
theorem soJoin_l : soJoin x [.lst xs] Q = joinD x xs Q := rfl
theorem soJoin_t : soJoin x [.tup xs] Q = joinD x xs Q := rfl
theorem oSlL_l : oSlL (.lst xs) oi oj QL = QL (cutD xs oi oj) := rfl
theorem oSlS_l : oSlS (.lst xs) oi oj Q = Q (.lst (cutD xs oi oj)) := rfl
theorem oSlS_t : oSlS (.tup xs) oi oj Q = Q (.tup (cutD xs oi oj)) := rfl
theorem oSlS_s : oSlS (.str x) oi oj Q = (x.length ≤ sizeLine ∧ Q (.str (cutS x oi oj))) := rfl
theorem isi_int_int : oIsi "int" [(.int i), .ty "int"] Q = Q (.bl true) := by
  have e : isD "int" (.int i) = true := rfl
  show ("int" = "int" ∧ (tyS (.int i)).isSome = true ∧ Q (.bl (isD "int" (.int i)))) = _
  rw [e]; simp [tyS]
theorem isi_int_str : oIsi "int" [(.str x), .ty "int"] Q = Q (.bl false) := by
  have e : isD "int" (.str x) = false := rfl
  show ("int" = "int" ∧ (tyS (.str x)).isSome = true ∧ Q (.bl (isD "int" (.str x)))) = _
  rw [e]; simp [tyS]
theorem isi_int_bool : oIsi "int" [(.bl a), .ty "int"] Q = Q (.bl true) := by
  have e : isD "int" (.bl a) = true := rfl
  show ("int" = "int" ∧ (tyS (.bl a)).isSome = true ∧ Q (.bl (isD "int" (.bl a)))) = _
  rw [e]; simp [tyS]
theorem isi_int_NoneType : oIsi "int" [.non, .ty "int"] Q = Q (.bl false) := by
  have e : isD "int" .non = false := rfl
  show ("int" = "int" ∧ (tyS .non).isSome = true ∧ Q (.bl (isD "int" .non))) = _
  rw [e]; simp [tyS]
theorem isi_int_list : oIsi "int" [(.lst xs), .ty "int"] Q = Q (.bl false) := by
  have e : isD "int" (.lst xs) = false := rfl
  show ("int" = "int" ∧ (tyS (.lst xs)).isSome = true ∧ Q (.bl (isD "int" (.lst xs)))) = _
  rw [e]; simp [tyS]
theorem isi_int_tuple : oIsi "int" [(.tup xs), .ty "int"] Q = Q (.bl false) := by
  have e : isD "int" (.tup xs) = false := rfl
  show ("int" = "int" ∧ (tyS (.tup xs)).isSome = true ∧ Q (.bl (isD "int" (.tup xs)))) = _
  rw [e]; simp [tyS]
theorem isi_bool_int : oIsi "bool" [(.int i), .ty "bool"] Q = Q (.bl false) := by
  have e : isD "bool" (.int i) = false := rfl
  show ("bool" = "bool" ∧ (tyS (.int i)).isSome = true ∧ Q (.bl (isD "bool" (.int i)))) = _
  rw [e]; simp [tyS]
theorem isi_bool_str : oIsi "bool" [(.str x), .ty "bool"] Q = Q (.bl false) := by
  have e : isD "bool" (.str x) = false := rfl
  show ("bool" = "bool" ∧ (tyS (.str x)).isSome = true ∧ Q (.bl (isD "bool" (.str x)))) = _
  rw [e]; simp [tyS]
theorem isi_bool_bool : oIsi "bool" [(.bl a), .ty "bool"] Q = Q (.bl true) := by
  have e : isD "bool" (.bl a) = true := rfl
  show ("bool" = "bool" ∧ (tyS (.bl a)).isSome = true ∧ Q (.bl (isD "bool" (.bl a)))) = _
  rw [e]; simp [tyS]
theorem isi_bool_NoneType : oIsi "bool" [.non, .ty "bool"] Q = Q (.bl false) := by
  have e : isD "bool" .non = false := rfl
  show ("bool" = "bool" ∧ (tyS .non).isSome = true ∧ Q (.bl (isD "bool" .non))) = _
  rw [e]; simp [tyS]
theorem isi_bool_list : oIsi "bool" [(.lst xs), .ty "bool"] Q = Q (.bl false) := by
  have e : isD "bool" (.lst xs) = false := rfl
  show ("bool" = "bool" ∧ (tyS (.lst xs)).isSome = true ∧ Q (.bl (isD "bool" (.lst xs)))) = _
  rw [e]; simp [tyS]
theorem isi_bool_tuple : oIsi "bool" [(.tup xs), .ty "bool"] Q = Q (.bl false) := by
  have e : isD "bool" (.tup xs) = false := rfl
  show ("bool" = "bool" ∧ (tyS (.tup xs)).isSome = true ∧ Q (.bl (isD "bool" (.tup xs)))) = _
  rw [e]; simp [tyS]
theorem isi_tuple_int : oIsi "tuple" [(.int i), .ty "tuple"] Q = Q (.bl false) := by
  have e : isD "tuple" (.int i) = false := rfl
  show ("tuple" = "tuple" ∧ (tyS (.int i)).isSome = true ∧ Q (.bl (isD "tuple" (.int i)))) = _
  rw [e]; simp [tyS]
theorem isi_tuple_str : oIsi "tuple" [(.str x), .ty "tuple"] Q = Q (.bl false) := by
  have e : isD "tuple" (.str x) = false := rfl
  show ("tuple" = "tuple" ∧ (tyS (.str x)).isSome = true ∧ Q (.bl (isD "tuple" (.str x)))) = _
  rw [e]; simp [tyS]
theorem isi_tuple_bool : oIsi "tuple" [(.bl a), .ty "tuple"] Q = Q (.bl false) := by
  have e : isD "tuple" (.bl a) = false := rfl
  show ("tuple" = "tuple" ∧ (tyS (.bl a)).isSome = true ∧ Q (.bl (isD "tuple" (.bl a)))) = _
  rw [e]; simp [tyS]
theorem isi_tuple_NoneType : oIsi "tuple" [.non, .ty "tuple"] Q = Q (.bl false) := by
  have e : isD "tuple" .non = false := rfl
  show ("tuple" = "tuple" ∧ (tyS .non).isSome = true ∧ Q (.bl (isD "tuple" .non))) = _
  rw [e]; simp [tyS]
theorem isi_tuple_list : oIsi "tuple" [(.lst xs), .ty "tuple"] Q = Q (.bl false) := by
  have e : isD "tuple" (.lst xs) = false := rfl
  show ("tuple" = "tuple" ∧ (tyS (.lst xs)).isSome = true ∧ Q (.bl (isD "tuple" (.lst xs)))) = _
  rw [e]; simp [tyS]
theorem isi_tuple_tuple : oIsi "tuple" [(.tup xs), .ty "tuple"] Q = Q (.bl true) := by
  have e : isD "tuple" (.tup xs) = true := rfl
  show ("tuple" = "tuple" ∧ (tyS (.tup xs)).isSome = true ∧ Q (.bl (isD "tuple" (.tup xs)))) = _
  rw [e]; simp [tyS]
theorem isi_str_int : oIsi "str" [(.int i), .ty "str"] Q = Q (.bl false) := by
  have e : isD "str" (.int i) = false := rfl
  show ("str" = "str" ∧ (tyS (.int i)).isSome = true ∧ Q (.bl (isD "str" (.int i)))) = _
  rw [e]; simp [tyS]
theorem isi_str_str : oIsi "str" [(.str x), .ty "str"] Q = Q (.bl true) := by
  have e : isD "str" (.str x) = true := rfl
  show ("str" = "str" ∧ (tyS (.str x)).isSome = true ∧ Q (.bl (isD "str" (.str x)))) = _
  rw [e]; simp [tyS]
theorem isi_str_bool : oIsi "str" [(.bl a), .ty "str"] Q = Q (.bl false) := by
  have e : isD "str" (.bl a) = false := rfl
  show ("str" = "str" ∧ (tyS (.bl a)).isSome = true ∧ Q (.bl (isD "str" (.bl a)))) = _
  rw [e]; simp [tyS]
theorem isi_str_NoneType : oIsi "str" [.non, .ty "str"] Q = Q (.bl false) := by
  have e : isD "str" .non = false := rfl
  show ("str" = "str" ∧ (tyS .non).isSome = true ∧ Q (.bl (isD "str" .non))) = _
  rw [e]; simp [tyS]
theorem isi_str_list : oIsi "str" [(.lst xs), .ty "str"] Q = Q (.bl false) := by
  have e : isD "str" (.lst xs) = false := rfl
  show ("str" = "str" ∧ (tyS (.lst xs)).isSome = true ∧ Q (.bl (isD "str" (.lst xs)))) = _
  rw [e]; simp [tyS]
theorem isi_str_tuple : oIsi "str" [(.tup xs), .ty "str"] Q = Q (.bl false) := by
  have e : isD "str" (.tup xs) = false := rfl
  show ("str" = "str" ∧ (tyS (.tup xs)).isSome = true ∧ Q (.bl (isD "str" (.tup xs)))) = _
  rw [e]; simp [tyS]
theorem isi_list_int : oIsi "list" [(.int i), .ty "list"] Q = Q (.bl false) := by
  have e : isD "list" (.int i) = false := rfl
  show ("list" = "list" ∧ (tyS (.int i)).isSome = true ∧ Q (.bl (isD "list" (.int i)))) = _
  rw [e]; simp [tyS]
theorem isi_list_str : oIsi "list" [(.str x), .ty "list"] Q = Q (.bl false) := by
  have e : isD "list" (.str x) = false := rfl
  show ("list" = "list" ∧ (tyS (.str x)).isSome = true ∧ Q (.bl (isD "list" (.str x)))) = _
  rw [e]; simp [tyS]
theorem isi_list_bool : oIsi "list" [(.bl a), .ty "list"] Q = Q (.bl false) := by
  have e : isD "list" (.bl a) = false := rfl
  show ("list" = "list" ∧ (tyS (.bl a)).isSome = true ∧ Q (.bl (isD "list" (.bl a)))) = _
  rw [e]; simp [tyS]
theorem isi_list_NoneType : oIsi "list" [.non, .ty "list"] Q = Q (.bl false) := by
  have e : isD "list" .non = false := rfl
  show ("list" = "list" ∧ (tyS .non).isSome = true ∧ Q (.bl (isD "list" .non))) = _
  rw [e]; simp [tyS]
theorem isi_list_list : oIsi "list" [(.lst xs), .ty "list"] Q = Q (.bl true) := by
  have e : isD "list" (.lst xs) = true := rfl
  show ("list" = "list" ∧ (tyS (.lst xs)).isSome = true ∧ Q (.bl (isD "list" (.lst xs)))) = _
  rw [e]; simp [tyS]
theorem isi_list_tuple : oIsi "list" [(.tup xs), .ty "list"] Q = Q (.bl false) := by
  have e : isD "list" (.tup xs) = false := rfl
  show ("list" = "list" ∧ (tyS (.tup xs)).isSome = true ∧ Q (.bl (isD "list" (.tup xs)))) = _
  rw [e]; simp [tyS]
theorem atI_at {α : Type} {xs : List α} {i : Int} {n : Nat} {a : α} (e : i = (n : Int)) (h : xs[n]? = some a) : atI xs i = some a := by
  have hl := (List.getElem?_eq_some_iff.mp h).1
  unfold atI ixN
  subst e
  rw [if_pos (by omega), if_pos (by omega)]
  exact h
theorem ix_at {xs : List D} {i : Int} {n : Nat} {a : D} (e : i = (n : Int)) (h : xs[n]? = some a) {Q : D → Prop} : oIx (.tup xs) (.int i) Q = Q a ∧ oIx (.lst xs) (.int i) Q = Q a := by
  have h := atI_at e h
  have e : (∃ d, atI xs i = some d ∧ Q d) = Q a := by rw [h]; exact propext ⟨fun ⟨d, e, q⟩ => by cases e; exact q, fun q => ⟨a, rfl, q⟩⟩
  exact ⟨e, e⟩
theorem ix_lt {xs : List D} {i : Int} (h0 : 0 ≤ i) (h1 : i < xs.length) : oIx (.lst xs) (.int i) Q = Q (xs.getD i.toNat .non) ∧ oIx (.tup xs) (.int i) Q = Q (xs.getD i.toNat .non) := by
  have h : xs[i.toNat]? = some (xs.getD i.toNat .non) := by rw [List.getD_eq_getElem?_getD, List.getElem?_eq_getElem (by omega)]; rfl
  have := ix_at (Q := Q) (show i = (i.toNat : Int) by omega) h
  exact ⟨this.2, this.1⟩
variable {d0 d1 d2 d3 d4 d5 : D}
theorem oIx_t0 : oIx (.tup (d0 :: xs)) (.int 0) Q = Q d0 := (ix_at (n := 0) rfl rfl).1
theorem oIx_l0 : oIx (.lst (d0 :: xs)) (.int 0) Q = Q d0 := (ix_at (n := 0) rfl rfl).2
theorem oIx_t1 : oIx (.tup (d0 :: d1 :: xs)) (.int 1) Q = Q d1 := (ix_at (n := 1) rfl rfl).1
theorem oIx_l1 : oIx (.lst (d0 :: d1 :: xs)) (.int 1) Q = Q d1 := (ix_at (n := 1) rfl rfl).2
theorem oIx_t2 : oIx (.tup (d0 :: d1 :: d2 :: xs)) (.int 2) Q = Q d2 := (ix_at (n := 2) rfl rfl).1
theorem oIx_l2 : oIx (.lst (d0 :: d1 :: d2 :: xs)) (.int 2) Q = Q d2 := (ix_at (n := 2) rfl rfl).2
theorem oIx_t3 : oIx (.tup (d0 :: d1 :: d2 :: d3 :: xs)) (.int 3) Q = Q d3 := (ix_at (n := 3) rfl rfl).1
theorem oIx_l3 : oIx (.lst (d0 :: d1 :: d2 :: d3 :: xs)) (.int 3) Q = Q d3 := (ix_at (n := 3) rfl rfl).2
theorem oIx_t4 : oIx (.tup (d0 :: d1 :: d2 :: d3 :: d4 :: xs)) (.int 4) Q = Q d4 := (ix_at (n := 4) rfl rfl).1
theorem oIx_l4 : oIx (.lst (d0 :: d1 :: d2 :: d3 :: d4 :: xs)) (.int 4) Q = Q d4 := (ix_at (n := 4) rfl rfl).2
theorem oIx_t5 : oIx (.tup (d0 :: d1 :: d2 :: d3 :: d4 :: d5 :: xs)) (.int 5) Q = Q d5 := (ix_at (n := 5) rfl rfl).1
theorem oIx_l5 : oIx (.lst (d0 :: d1 :: d2 :: d3 :: d4 :: d5 :: xs)) (.int 5) Q = Q d5 := (ix_at (n := 5) rfl rfl).2

theorem oIx_f0 {p : Rat} : oIx (fD p) (.int 0) Q = Q (.int p.num) := oIx_t0
theorem oIx_f1 {p : Rat} : oIx (fD p) (.int 1) Q = Q (.int p.den) := oIx_t1
theorem drf_fD {p : Rat} : drf M (fD p) = fD p := rfl
theorem oLen_f {p : Rat} : oLen [fD p] Q = Q (.int 2) := rfl
theorem isi_tuple_f {p : Rat} : oIsi "tuple" [fD p, .ty "tuple"] Q = Q (.bl true) := isi_tuple_tuple
theorem isi_int_f {p : Rat} : oIsi "int" [fD p, .ty "int"] Q = Q (.bl false) := isi_int_tuple
theorem eq_fD {p q : Rat} : oEq (fD p) (fD q) Q = Q (.bl (decide (p = q))) := by
  have e : PyData.eqv (fD p).py (fD q).py = decide (p = q) := by
    show (p.num == q.num && ((p.den : Int) == q.den && true)) = decide (p = q)
    rw [Bool.and_true, Bool.eq_iff_iff]
    simp only [Bool.and_eq_true, beq_iff_eq, decide_eq_true_eq]
    constructor
    · rintro ⟨h1, h2⟩; exact Rat.ext h1 (by omega)
    · rintro rfl; exact ⟨rfl, rfl⟩
  show (SeqAt.shaped (fD p).py = true ∧ SeqAt.shaped (fD q).py = true ∧ Q (.bl (PyData.eqv (fD p).py (fD q).py))) = _
  rw [e, show SeqAt.shaped (fD p).py = true from rfl, show SeqAt.shaped (fD q).py = true from rfl]
  simp
theorem ne_fD {p q : Rat} : oNe (fD p) (fD q) Q = Q (.bl (!decide (p = q))) := eq_fD (Q := fun d => match d with | .bl b => Q (.bl (!b)) | d => Q d)
end
theorem getD_map_int (xs : List Int) (n : Nat) (h : n < xs.length) : (xs.map D.int).getD n .non = .int (xs.getD n 0) := by
  simp [List.getD_eq_getElem?_getD, h]
theorem sp2i {P : Int → Int → Prop} {ds : List D} (h : match ds with | [.int a, .int b] => P a b | _ => False) : ∃ a b, ds = [.int a, .int b] ∧ P a b := by
  split at h
  · exact ⟨_, _, rfl, h⟩
  · exact h.elim
end Z

namespace Z
open PySem L2
local macro_rules | `(tactic| simp! [$xs,*]) => `(tactic| simp only [$xs,*, ↓dSeq, ↓dAsg, ↓dOp, ↓dVar, ↓dVarR, ↓dC, ↓dCall, ↓dCons, ↓dNil, ↓dIf, ↓dRet, ↓dRetN, ↓dTup, ↓dTst, ↓dNeg, ↓dNext, ↓dCB, ↓dLstOf, ↓dLst, ↓dCat, ↓dSlL, ↓dSlS, ↓dONone, ↓dOSome, ↓dList1, ↓dChain, ↓dChain3, ↓dAndT, ↓dOrT, ↓dNotT, ↓dAndV, ↓dOrV, ↓dNotV, ↓dIfE, ↓dTru, ↓dOwn, ↓dAsgG, ↓dPar, ↓dDrop, ↓dAugI, ↓dBreak, ↓dCont, ↓dgName, ↓dgNil, ↓dgCons, ↓dgTup, ↓dFrz, ↓frzE, ↓dItA, ↓dItB, ↓dRng1, ↓dRng2, ↓dEnum, ↓dFor, ↓dSM, ↓dSM0, ↓dRepN, ↓dLc, ↓dYes, ↓wipeE, ↓dStore, ↓dLmut, ↓lmPre, ↓lmAt, ↓isLst, ↓kNx, ↓kSet, ↓lmAppend, ↓lmExtend, ↓lmPop, ↓lmPopAt, ↓lmClear, ↓lmInsert, ↓lmSet, ↓dAugL, ↓dAugS, ↓lmAugS, ↓dMake, ↓dMake0, ↓dMeth, ↓dFld, ↓dSetF, ↓dTry, ↓dTryM, ↓exM, ↓dRaise, ↓endsOf, ↓startE, ↓entOf, ↓ga, ↓pur, ↓dDnew, ↓dDput, ↓dDget, ↓dDsetd, ↓dLmX, ↓dFrzM, ↓dZip, ↓dListRev, ↓oListRev, ↓dOrG, ↓dLstM, ↓onDic, ↓onDicR, ↓onLst, ↓obD, ↓dVarP, ↓dItC, ↓onIns, ↓endsW, ↓drf_int, ↓drf_str, ↓drf_bl, ↓drf_non, ↓drf_lst, ↓drf_tup, ↓drf_obj, ↓drf_dic, ↓drf_cls, ↓drf_exc, ↓drf_ty, ↓drf_ref, ↓drfO_dic, ↓drfO_lst, ↓drfO_ins, ↓drfO_non, ↓oLen_d, ↓oIn_d, ↓oNotIn_d, ↓oIn_dt, ↓oNotIn_dt, ↓kOkB_s, ↓kOkB_i, ↓oAdd_i, ↓oAdd_s, ↓oAdd_t, ↓oAdd_l, ↓oSub_i, ↓oMul_i, ↓oMulA_i, ↓oMulA_s, ↓oFdiv_i, ↓oMod_i, ↓oPow_i, ↓oLt_i, ↓oLe_i, ↓oGt_i, ↓oGe_i, ↓oEq_i, ↓oEq_s, ↓oEq_b, ↓oEq_nn, ↓oEq_ni, ↓oEq_in, ↓oEq_ns, ↓oEq_sn, ↓oNe_i, ↓oNe_s, ↓oNe_b, ↓oNe_nn, ↓oNe_ni, ↓oNe_in, ↓oNe_ns, ↓oNe_sn, ↓oIsN_, ↓oNotN_, ↓isNon_int, ↓isNon_str, ↓isNon_bl, ↓isNon_non, ↓isNon_lst, ↓isNon_tup, ↓isNon_obj, ↓isNon_exc, ↓isNon_dic, ↓oLen_s, ↓oLen_l, ↓oLen_t, ↓oAbs_, ↓oMax2_, ↓oMin2_, ↓oInt1_i, ↓oInt1_b, ↓oInt1_s, ↓oStr1_, ↓oTuple1_l, ↓oTuple1_t, ↓oList1_l, ↓oList1_t, ↓oCat_l, ↓truD_n, ↓truD_b, ↓truD_i, ↓truD_s, ↓truD_l, ↓truD_t, ↓onStr_s, ↓soStarts_, ↓soUpper_, ↓soLower_, ↓soIsupper_, ↓soFind_, ↓soStrip_, ↓soPart_, ↓soSplit_, ↓soJoin_l, ↓soJoin_t, ↓oSlL_l, ↓oSlS_l, ↓oSlS_t, ↓oSlS_s, ↓isi_int_int, ↓isi_int_str, ↓isi_int_bool, ↓isi_int_NoneType, ↓isi_int_list, ↓isi_int_tuple, ↓isi_bool_int, ↓isi_bool_str, ↓isi_bool_bool, ↓isi_bool_NoneType, ↓isi_bool_list, ↓isi_bool_tuple, ↓isi_tuple_int, ↓isi_tuple_str, ↓isi_tuple_bool, ↓isi_tuple_NoneType, ↓isi_tuple_list, ↓isi_tuple_tuple, ↓isi_str_int, ↓isi_str_str, ↓isi_str_bool, ↓isi_str_NoneType, ↓isi_str_list, ↓isi_str_tuple, ↓isi_list_int, ↓isi_list_str, ↓isi_list_bool, ↓isi_list_NoneType, ↓isi_list_list, ↓isi_list_tuple, ↓oIx_t0, ↓oIx_l0, ↓oIx_t1, ↓oIx_l1, ↓oIx_t2, ↓oIx_l2, ↓oIx_t3, ↓oIx_l3, ↓oIx_t4, ↓oIx_l4, ↓oIx_t5, ↓oIx_l5, ↓oIx_f0, ↓oIx_f1, ↓drf_fD, ↓oLen_f, ↓isi_tuple_f, ↓isi_int_f, ↓eq_fD, ↓ne_fD, ofS_inj, mem_ofS, mem_ofS0, putD_nil, putD_cons, updM_same, String.reduceEq, Nat.reduceLT, true_or, or_true, false_or, or_false, true_and, and_true, false_and, and_false, List.set_cons_zero, List.set_cons_succ, List.map_cons, List.map_nil, if_true, if_false, Bool.false_eq_true, decide_eq_true_eq, List.length_cons, List.length_nil, Int.reduceNe, Int.reduceLT, Int.reduceLE, Int.reduceEq, Int.reduceToNat, Int.reducePow, Int.reduceNeg, Int.reduceAdd, Int.reduceMul, Int.reduceSub, Nat.reduceAdd, Nat.reduceLeDiff, Nat.reduceEqDiff, Int.cast_ofNat_Int, Bool.true_eq_false, ite_not, sizeLine_eq, true_and, and_true, and_self, Int.fmod_eq_emod_of_nonneg, Int.fdiv_eq_ediv_of_nonneg, Bool.not_true, Bool.not_false, Bool.not_eq_true', decide_eq_false_iff_not, decide_true, decide_false])
def t_l_at : DTS :=
 (dSeq (dIf (dTst (dOp oLt (dVarR 1) (dCB oLen (dCons (dVarR 0) dNil)))) (dRet (dOp oIx (dVarR 0) (dVarR 1))) dNext)
 (dRet (dC (.int 0))))

/-! ### loops and comprehensions at work -/
section
variable {G : DTG} {U : DTT} {T : DTE} {ws : List Nat} {xs : List D} {ρ : List Ent} {M : Mu} {Q : List D → Mu → Prop}
/-- every item gives one: what holds of each -/
theorem lc_all (P : Nat → D → Prop) (hl : xs.length ≤ 1000000) (h : ∀ i x, xs[i]? = some x → ∀ (K : D → Mu → Prop) (N : Mu → Prop), (∀ d, P i d → K d M) → G x (wipeE ρ ws) fun ρ2 => U ρ2 M (fun b M2 => if b = true then T ρ2 M2 K (fun _ _ => False) else N M2) (fun _ _ => False))
    (hq : ∀ acc : List D, acc.length = xs.length → (∀ (i : Nat) d, acc[i]? = some d → P i d) → Q acc M) : dLcI G U T ws xs ρ M Q := by
  refine ⟨fun i acc M' => acc.length = i ∧ (∀ (j : Nat) d, acc[j]? = some d → P j d) ∧ M' = M, ⟨rfl, fun j d e => by simp at e, rfl⟩, ?_, ?_⟩
  · rintro i x hx acc M' ⟨h1, h2, rfl⟩
    have hi := (List.getElem?_eq_some_iff.mp hx).1
    refine ⟨by rw [sizeLine_eq]; omega, h i x hx _ _ fun d hd => ⟨by simp [h1], fun j d' e => ?_, rfl⟩⟩
    by_cases z : j < acc.length
    · rw [List.getElem?_append_left z] at e; exact h2 j d' e
    · have hj := (List.getElem?_eq_some_iff.mp e).1
      simp at hj
      have ej : j = acc.length := by omega
      subst ej
      rw [List.getElem?_append_right (Nat.le_refl _)] at e
      simp at e
      subst e
      rw [h1]; exact hd
  · rintro acc M' ⟨h1, h2, rfl⟩
    exact hq acc h1 h2
/-- every item gives one: f of it -/
theorem lc_map (f : D → D) (hl : xs.length ≤ 1000000) (h : ∀ x ∈ xs, ∀ (K : D → Mu → Prop) (N : Mu → Prop), K (f x) M → G x (wipeE ρ ws) fun ρ2 => U ρ2 M (fun b M2 => if b = true then T ρ2 M2 K (fun _ _ => False) else N M2) (fun _ _ => False))
    (hq : Q (xs.map f) M) : dLcI G U T ws xs ρ M Q := by
  refine lc_all (fun i d => ∃ x, xs[i]? = some x ∧ d = f x) hl (fun i x hx K N hk => h x (List.mem_of_getElem? hx) K N (hk _ ⟨x, hx, rfl⟩)) fun acc h1 h2 => ?_
  have e : acc = xs.map f := by
    refine List.ext_getElem? fun i => ?_
    rw [List.getElem?_map]
    cases z : acc[i]? with
    | none =>
      have := List.getElem?_eq_none_iff.mp z
      rw [List.getElem?_eq_none (by omega)]; rfl
    | some d =>
      obtain ⟨x, e1, e2⟩ := h2 i d z
      rw [e1, e2]; rfl
  rw [e]; exact hq
/-- the items that pass a test, f of each -/
theorem lc_filter (c : D → Bool) (f : D → D) (hl : xs.length ≤ 1000000) (h : ∀ x ∈ xs, ∀ (K : D → Mu → Prop) (N : Mu → Prop), (c x = true → K (f x) M) → (c x = false → N M) → G x (wipeE ρ ws) fun ρ2 => U ρ2 M (fun b M2 => if b = true then T ρ2 M2 K (fun _ _ => False) else N M2) (fun _ _ => False))
    (hq : Q ((xs.filter c).map f) M) : dLcI G U T ws xs ρ M Q := by
  refine ⟨fun i acc M' => acc = ((xs.take i).filter c).map f ∧ M' = M, ⟨by simp, rfl⟩, ?_, ?_⟩
  · rintro i x hx acc M' ⟨rfl, rfl⟩
    have hi := (List.getElem?_eq_some_iff.mp hx).1
    refine ⟨?_, h x (List.mem_of_getElem? hx) _ _ (fun e => ⟨?_, rfl⟩) fun e => ⟨?_, rfl⟩⟩
    · have := List.length_filter_le c (xs.take i)
      simp only [List.length_map, List.length_take] at this ⊢
      rw [sizeLine_eq]; omega
    · rw [List.take_add_one, hx]; simp [List.filter_append, e]
    · rw [List.take_add_one, hx]; simp [List.filter_append, e]
  · rintro acc M' ⟨rfl, rfl⟩
    rw [List.take_length]; exact hq
end
/-- a loop of no memory: each item goes on -/
theorem for_each {G : DTG} {S : DTS} {DD : DEnds} {xs : List D} {ρ : List Ent} {M : Mu} (I : List Ent → Mu → Prop) (h0 : I ρ M) (hs : ∀ (i : Nat) x, xs[i]? = some x → ∀ ρ' M', I ρ' M' → G x ρ' fun ρ2 => S { DD with nx := I, ct := I, bk := DD.nx } ρ2 M') (hd : ∀ ρ' M', I ρ' M' → DD.nx ρ' M') : dForI G S DD xs ρ M :=
  ⟨fun _ => I, h0, hs, hd⟩
/-- the script's cells -/
def sp_l_at : SpD := fun ds Q _ => match ds with | [.lst xs, .int k] => ∃ ns : List Int, xs = ns.map .int ∧ 0 ≤ k ∧ Q (.int (ns.getD k.toNat 0)) | _ => False
theorem map_int_inj : ∀ {a b : List Int}, a.map D.int = b.map D.int → a = b
  | [], [], _ => rfl
  | [], _ :: _, h => by cases h
  | _ :: _, [], h => by cases h
  | x :: a, y :: b, h => by
    injection h with h1 h2
    injection h1 with h1
    rw [h1, map_int_inj h2]
theorem e_l_at {ns : List Int} {k : Int} {Q : D → Prop} {E : Str → Prop} : sp_l_at [.lst (ns.map .int), .int k] Q E = (0 ≤ k ∧ Q (.int (ns.getD k.toNat 0))) :=
  propext ⟨fun ⟨n2, e, h⟩ => by cases map_int_inj e; exact h, fun h => ⟨ns, rfl, h⟩⟩
theorem r_l_at (ds M Q E) (h : pur sp_l_at ds M Q E) : t_l_at (endsOf Q E) (startE [false, false] 2 ds) M := by
  unfold pur sp_l_at at h
  dsimp only at h
  split at h
  · obtain ⟨ns, rfl, h0, h⟩ := h
    rename_i k
    simp! [t_l_at, List.length_map]
    by_cases hk : k < (ns.length : Int)
    · rw [if_pos hk, (ix_lt h0 (by rw [List.length_map]; exact hk)).1, getD_map_int _ _ (by omega)]
      exact h
    · rw [if_neg hk]
      have e : ns.getD k.toNat 0 = 0 := by rw [List.getD_eq_getElem?_getD, List.getElem?_eq_none (by omega)]; rfl
      rw [e] at h; exact h
  · exact h.elim

end Z

namespace Z
open PySem L2
local macro_rules | `(tactic| simp! [$xs,*]) => `(tactic| simp only [$xs,*, ↓dSeq, ↓dAsg, ↓dOp, ↓dVar, ↓dVarR, ↓dC, ↓dCall, ↓dCons, ↓dNil, ↓dIf, ↓dRet, ↓dRetN, ↓dTup, ↓dTst, ↓dNeg, ↓dNext, ↓dCB, ↓dLstOf, ↓dLst, ↓dCat, ↓dSlL, ↓dSlS, ↓dONone, ↓dOSome, ↓dList1, ↓dChain, ↓dChain3, ↓dAndT, ↓dOrT, ↓dNotT, ↓dAndV, ↓dOrV, ↓dNotV, ↓dIfE, ↓dTru, ↓dOwn, ↓dAsgG, ↓dPar, ↓dDrop, ↓dAugI, ↓dBreak, ↓dCont, ↓dgName, ↓dgNil, ↓dgCons, ↓dgTup, ↓dFrz, ↓frzE, ↓dItA, ↓dItB, ↓dRng1, ↓dRng2, ↓dEnum, ↓dFor, ↓dSM, ↓dSM0, ↓dRepN, ↓dLc, ↓dYes, ↓wipeE, ↓dStore, ↓dLmut, ↓lmPre, ↓lmAt, ↓isLst, ↓kNx, ↓kSet, ↓lmAppend, ↓lmExtend, ↓lmPop, ↓lmPopAt, ↓lmClear, ↓lmInsert, ↓lmSet, ↓dAugL, ↓dAugS, ↓lmAugS, ↓dMake, ↓dMake0, ↓dMeth, ↓dFld, ↓dSetF, ↓dTry, ↓dTryM, ↓exM, ↓dRaise, ↓endsOf, ↓startE, ↓entOf, ↓ga, ↓pur, ↓dDnew, ↓dDput, ↓dDget, ↓dDsetd, ↓dLmX, ↓dFrzM, ↓dZip, ↓dListRev, ↓oListRev, ↓dOrG, ↓dLstM, ↓onDic, ↓onDicR, ↓onLst, ↓obD, ↓dVarP, ↓dItC, ↓onIns, ↓endsW, ↓drf_int, ↓drf_str, ↓drf_bl, ↓drf_non, ↓drf_lst, ↓drf_tup, ↓drf_obj, ↓drf_dic, ↓drf_cls, ↓drf_exc, ↓drf_ty, ↓drf_ref, ↓drfO_dic, ↓drfO_lst, ↓drfO_ins, ↓drfO_non, ↓oLen_d, ↓oIn_d, ↓oNotIn_d, ↓oIn_dt, ↓oNotIn_dt, ↓kOkB_s, ↓kOkB_i, ↓oAdd_i, ↓oAdd_s, ↓oAdd_t, ↓oAdd_l, ↓oSub_i, ↓oMul_i, ↓oMulA_i, ↓oMulA_s, ↓oFdiv_i, ↓oMod_i, ↓oPow_i, ↓oLt_i, ↓oLe_i, ↓oGt_i, ↓oGe_i, ↓oEq_i, ↓oEq_s, ↓oEq_b, ↓oEq_nn, ↓oEq_ni, ↓oEq_in, ↓oEq_ns, ↓oEq_sn, ↓oNe_i, ↓oNe_s, ↓oNe_b, ↓oNe_nn, ↓oNe_ni, ↓oNe_in, ↓oNe_ns, ↓oNe_sn, ↓oIsN_, ↓oNotN_, ↓isNon_int, ↓isNon_str, ↓isNon_bl, ↓isNon_non, ↓isNon_lst, ↓isNon_tup, ↓isNon_obj, ↓isNon_exc, ↓isNon_dic, ↓oLen_s, ↓oLen_l, ↓oLen_t, ↓oAbs_, ↓oMax2_, ↓oMin2_, ↓oInt1_i, ↓oInt1_b, ↓oInt1_s, ↓oStr1_, ↓oTuple1_l, ↓oTuple1_t, ↓oList1_l, ↓oList1_t, ↓oCat_l, ↓truD_n, ↓truD_b, ↓truD_i, ↓truD_s, ↓truD_l, ↓truD_t, ↓onStr_s, ↓soStarts_, ↓soUpper_, ↓soLower_, ↓soIsupper_, ↓soFind_, ↓soStrip_, ↓soPart_, ↓soSplit_, ↓soJoin_l, ↓soJoin_t, ↓oSlL_l, ↓oSlS_l, ↓oSlS_t, ↓oSlS_s, ↓isi_int_int, ↓isi_int_str, ↓isi_int_bool, ↓isi_int_NoneType, ↓isi_int_list, ↓isi_int_tuple, ↓isi_bool_int, ↓isi_bool_str, ↓isi_bool_bool, ↓isi_bool_NoneType, ↓isi_bool_list, ↓isi_bool_tuple, ↓isi_tuple_int, ↓isi_tuple_str, ↓isi_tuple_bool, ↓isi_tuple_NoneType, ↓isi_tuple_list, ↓isi_tuple_tuple, ↓isi_str_int, ↓isi_str_str, ↓isi_str_bool, ↓isi_str_NoneType, ↓isi_str_list, ↓isi_str_tuple, ↓isi_list_int, ↓isi_list_str, ↓isi_list_bool, ↓isi_list_NoneType, ↓isi_list_list, ↓isi_list_tuple, ↓oIx_t0, ↓oIx_l0, ↓oIx_t1, ↓oIx_l1, ↓oIx_t2, ↓oIx_l2, ↓oIx_t3, ↓oIx_l3, ↓oIx_t4, ↓oIx_l4, ↓oIx_t5, ↓oIx_l5, ↓oIx_f0, ↓oIx_f1, ↓drf_fD, ↓oLen_f, ↓isi_tuple_f, ↓isi_int_f, ↓eq_fD, ↓ne_fD, ofS_inj, mem_ofS, mem_ofS0, putD_nil, putD_cons, updM_same, String.reduceEq, Nat.reduceLT, true_or, or_true, false_or, or_false, true_and, and_true, false_and, and_false, List.set_cons_zero, List.set_cons_succ, List.map_cons, List.map_nil, if_true, if_false, Bool.false_eq_true, decide_eq_true_eq, List.length_cons, List.length_nil, Int.reduceNe, Int.reduceLT, Int.reduceLE, Int.reduceEq, Int.reduceToNat, Int.reducePow, Int.reduceNeg, Int.reduceAdd, Int.reduceMul, Int.reduceSub, Nat.reduceAdd, Nat.reduceLeDiff, Nat.reduceEqDiff, Int.cast_ofNat_Int, Bool.true_eq_false, ite_not, sizeLine_eq, true_and, and_true, and_self, Int.fmod_eq_emod_of_nonneg, Int.fdiv_eq_ediv_of_nonneg, Bool.not_true, Bool.not_false, Bool.not_eq_true', decide_eq_false_iff_not, decide_true, decide_false])
def t_common_divisor : DTS :=
 (dSeq (dAsg 0 (dCB oAbs (dCons (dVarR 0) dNil)))
 (dSeq (dAsg 1 (dCB oAbs (dCons (dVarR 1) dNil)))
 (dSeq (dWhile (dTst (dOp oNe (dVarR 1) (dC (.int 0)))) (dSeq (dAsg 2 (dOp oMod (dVarR 0) (dVarR 1)))
 (dSeq (dAsg 0 (dVar 1))
 (dAsg 1 (dVar 2)))))
 (dRet (dVar 0)))))

def t_fraction (p_common_divisor : SpM) : DTS :=
 (dSeq (dAsg 2 (dCall p_common_divisor (dCons (dVar 0) (dCons (dVar 1) dNil))))
 (dSeq (dIf (dTst (dOp oLt (dVarR 1) (dC (.int 0)))) (dAsg 2 (dNeg (dVarR 2))) dNext)
 (dRet (dTup (dCons (dOp oFdiv (dVarR 0) (dVarR 2)) (dCons (dOp oFdiv (dVarR 1) (dVarR 2)) dNil))))))

def t_l_mix : DTS :=
 (dSeq (dAsg 2 (dOp oIx (dLstOf (dLst (dCons (dC (.int 48271)) (dCons (dC (.int 69621)) (dCons (dC (.int 16807)) (dCons (dC (.int 40692)) (dCons (dC (.int 30269)) (dCons (dC (.int 62089)) (dCons (dC (.int 45991)) dNil))))))))) (dOp oMod (dVarR 1) (dC (.int 7)))))
 (dSeq (dAsg 3 (dOp oMod (dOp oMulA (dOp oAdd (dOp oAdd (dOp oMod (dVarR 0) (dC (.int 2147483647))) (dOp oMulA (dOp oMulA (dC (.int 97)) (dVarR 1)) (dVarR 1))) (dC (.int 11))) (dVarR 2)) (dC (.int 2147483629))))
 (dRet (dOp oMod (dOp oMulA (dVarR 3) (dVarR 3)) (dC (.int 1999999973))))))

def t_l_lowest : DTS :=
 (dSeq (dAsg 2 (dCB oAbs (dCons (dVarR 0) dNil)))
 (dSeq (dAsg 3 (dVar 1))
 (dSeq (dWhile (dTst (dOp oGt (dVarR 3) (dC (.int 0)))) (dSeq (dAsg 4 (dOp oMod (dVarR 2) (dVarR 3)))
 (dSeq (dAsg 2 (dVar 3))
 (dAsg 3 (dVar 4)))))
 (dRet (dTup (dCons (dOp oFdiv (dVarR 0) (dVarR 2)) (dCons (dOp oFdiv (dVarR 1) (dVarR 2)) dNil)))))))

def t_l_whole : DTS :=
 (dRet (dAndV (dCB (oIsi "int") (dCons (dVarR 0) (dCons (dC (.ty "int")) dNil))) (dNotV (dCB (oIsi "bool") (dCons (dVarR 0) (dCons (dC (.ty "bool")) dNil))))))

def t_l_fraction (p_l_whole : SpM) (p_l_lowest : SpM) : DTS :=
 (dSeq (dIf (dOrT (dNotT (dTru (dCB (oIsi "tuple") (dCons (dVarR 0) (dCons (dC (.ty "tuple")) dNil))))) (dOrT (dTst (dOp oNe (dCB oLen (dCons (dVarR 0) dNil)) (dC (.int 2)))) (dOrT (dNotT (dTru (dCall p_l_whole (dCons (dOp oIx (dVarR 0) (dC (.int 0))) dNil)))) (dNotT (dTru (dCall p_l_whole (dCons (dOp oIx (dVarR 0) (dC (.int 1))) dNil))))))) (dRet (dC (.bl false))) dNext)
 (dRet (dAndV (dOp oGt (dOp oIx (dVarR 0) (dC (.int 1))) (dC (.int 0))) (dAndV (dOp oEq (dCall p_l_lowest (dCons (dOp oIx (dVarR 0) (dC (.int 0))) (dCons (dOp oIx (dVarR 0) (dC (.int 1))) dNil))) (dVarR 0)) (dOp oEq (dOp oMulA (dOp oIx (dVarR 0) (dC (.int 0))) (dVarR 2)) (dOp oMulA (dVarR 1) (dOp oIx (dVarR 0) (dC (.int 1)))))))))

def sp_common_divisor : SpD := fun ds Q _ => match ds with | [.int a, .int b] => Q (.int (Int.gcd a b)) | _ => False
def sp_fraction : SpD := fun ds Q _ => match ds with | [.int a, .int b] => b ≠ 0 ∧ Sm b ∧ Q (fD (Rat.divInt a b)) | _ => False
theorem r_common_divisor (ds M Q E) (h : pur sp_common_divisor ds M Q E) : t_common_divisor (endsOf Q E) (startE [false, false] 3 ds) M := by
  obtain ⟨a, b, rfl, h⟩ := sp2i h
  simp! [t_common_divisor]
  refine ⟨fun n ρ M' => ∃ (x y : Nat) (r : Ent), ρ = [.dat (.int x), .dat (.int y), r] ∧ y = n ∧ Nat.gcd x y = Int.gcd a b ∧ M' = M, ⟨b.natAbs, a.natAbs, b.natAbs, .un, ?_, rfl, rfl, rfl⟩, ?_⟩
  · have e1 : (if a < 0 then -a else a) = (a.natAbs : Int) := by split <;> omega
    have e2 : (if b < 0 then -b else b) = (b.natAbs : Int) := by split <;> omega
    rw [e1, e2]
  · rintro n ρ M' ⟨x, y, r, rfl, rfl, hg, rfl⟩
    simp! [dWhile]
    by_cases hy : y = 0
    · subst hy
      simp at hg ⊢
      rw [hg]; exact h
    · rw [if_neg (by omega)]
      refine ⟨by omega, x % y, Nat.mod_lt _ (by omega), y, x % y, .dat (.int ((x : Int).fmod y)), ?_, rfl, ?_⟩
      · have : (x : Int).fmod y = ((x % y : Nat) : Int) := by rw [Int.fmod_eq_emod_of_nonneg _ (by omega)]; rfl
        rw [this]
      · rw [gcd_emod]; exact hg
theorem r_fraction (ds M Q E) (h : pur sp_fraction ds M Q E) : t_fraction (pur sp_common_divisor) (endsOf Q E) (startE [false, false] 3 ds) M := by
  obtain ⟨a, b, rfl, h1, h2, h3⟩ := sp2i h
  have h4 := frac_fdiv (a := a) h1
  have h5 := Sm.gcd (a := a) h1 h2
  have hz : 2 ≤ sizeLine := by decide
  simp! [t_fraction, sp_common_divisor]
  by_cases hb : b < 0
  · rw [if_pos hb]
    simp only [if_pos hb] at h4 h5
    exact ⟨h4.1, h5, h4.1, h5, by rw [h4.2.1, h4.2.2]; exact h3⟩
  · rw [if_neg hb]
    simp only [if_neg hb] at h4 h5
    exact ⟨h4.1, h5, h4.1, h5, by rw [h4.2.1, h4.2.2]; exact h3⟩

/-! ### the law's own -/
def mixF (k : Int) : Int := [48271, 69621, 16807, 40692, 30269, 62089, 45991].getD (k % 7).toNat 0
def mixN (c k : Int) : Int := (c % 2147483647 + 97 * k * k + 11) * mixF k % 2147483629
def mix (c k : Int) : Int := mixN c k * mixN c k % 1999999973
theorem mix_lo (c k : Int) : 0 ≤ mix c k := Int.emod_nonneg _ (by decide)
theorem mix_hi (c k : Int) : mix c k < 1999999973 := Int.emod_lt_of_pos _ (by decide)
theorem mixF_lo (k : Int) : 0 ≤ mixF k ∧ mixF k < 100000 := by
  have h0 := Int.emod_nonneg k (show (7 : Int) ≠ 0 by decide)
  have h1 := Int.emod_lt_of_pos k (show (0 : Int) < 7 by decide)
  unfold mixF
  obtain ⟨n, hn⟩ := Int.eq_ofNat_of_zero_le h0
  rw [hn] at h1 ⊢
  have : n = 0 ∨ n = 1 ∨ n = 2 ∨ n = 3 ∨ n = 4 ∨ n = 5 ∨ n = 6 := by omega
  rcases this with rfl | rfl | rfl | rfl | rfl | rfl | rfl <;> decide
/-- small numbers -/
def kOk (k : Int) : Prop := 0 ≤ k ∧ k < 1000000
def sp_l_mix : SpD := fun ds Q _ => match ds with | [.int c, .int k] => kOk k ∧ Q (.int (mix c k)) | _ => False
theorem r_l_mix (ds M Q E) (h : pur sp_l_mix ds M Q E) : t_l_mix (endsOf Q E) (startE [false, false] 4 ds) M := by
  obtain ⟨c, k, rfl, hk, h⟩ := sp2i h
  have h0 := Int.emod_nonneg k (show (7 : Int) ≠ 0 by decide)
  have h1 := Int.emod_lt_of_pos k (show (0 : Int) < 7 by decide)
  simp! [t_l_mix, dLstOf, dLst]
  rw [(ix_lt h0 (by simp; omega)).1]
  have e := getD_map_int [48271, 69621, 16807, 40692, 30269, 62089, 45991] (k % 7).toNat (by simp; omega)
  simp only [List.map_cons, List.map_nil] at e
  rw [e]
  simp! [dSeq]
  obtain ⟨k0, k1⟩ := hk
  have hkk : 0 ≤ 97 * k * k ∧ 97 * k * k < 97000000000000 := by
    have h1 := mul_bd k0 (show k ≤ 999999 by omega) k0 (show k ≤ 999999 by omega)
    have e : 97 * k * k = 97 * (k * k) := by rw [Int.mul_assoc]
    omega
  have hc := Int.emod_nonneg c (show (2147483647 : Int) ≠ 0 by decide)
  have hc2 := Int.emod_lt_of_pos c (show (0 : Int) < 2147483647 by decide)
  have hF := mixF_lo k
  have eF : [48271, 69621, 16807, 40692, 30269, 62089, 45991].getD (k % 7).toNat 0 = mixF k := rfl
  rw [eF]
  have eN : (c % 2147483647 + 97 * k * k + 11) * mixF k % 2147483629 = mixN c k := rfl
  rw [eN]
  have hN := Int.emod_nonneg ((c % 2147483647 + 97 * k * k + 11) * mixF k) (show (2147483629 : Int) ≠ 0 by decide)
  have hN2 := Int.emod_lt_of_pos ((c % 2147483647 + 97 * k * k + 11) * mixF k) (show (0 : Int) < 2147483629 by decide)
  rw [eN] at hN hN2
  exact ⟨sm_lit (by omega) (by omega), sm_lit (by omega) (by omega), sm_lit (by omega) (by omega), sm_lit (by omega) (by omega), sm_lit (by omega) (by omega), sm_lit (by omega) (by omega), sm_lit (by omega) (by omega), sm_lit (by omega) (by omega), h⟩
def sp_l_lowest : SpD := fun ds Q _ => match ds with | [.int a, .int b] => 0 < b ∧ Sm b ∧ Q (fD (Rat.divInt a b)) | _ => False
theorem r_l_lowest (ds M Q E) (h : pur sp_l_lowest ds M Q E) : t_l_lowest (endsOf Q E) (startE [false, false] 5 ds) M := by
  obtain ⟨a, b, rfl, hb, hs, h⟩ := sp2i h
  have h4 := frac_fdiv (a := a) (b := b) (by omega)
  have h5 := Sm.gcd (a := a) (b := b) (by omega) hs
  simp only [if_neg (show ¬ b < 0 by omega)] at h4 h5
  simp! [t_l_lowest]
  refine ⟨fun n ρ M' => ∃ (x y : Nat) (r : Ent), ρ = [.dat (.int a), .dat (.int b), .dat (.int x), .dat (.int y), r] ∧ y = n ∧ Nat.gcd x y = Int.gcd a b ∧ M' = M, ⟨b.natAbs, a.natAbs, b.natAbs, .un, ?_, rfl, rfl, rfl⟩, ?_⟩
  · have e1 : (if a < 0 then -a else a) = (a.natAbs : Int) := by split <;> omega
    have e2 : b = (b.natAbs : Int) := by omega
    rw [e1, ← e2]
  · rintro n ρ M' ⟨x, y, r, rfl, rfl, hg, rfl⟩
    simp! [dSeq]
    by_cases hy : y = 0
    · subst hy
      simp only [Nat.gcd_zero_right] at hg
      subst hg
      rw [if_neg (by simp)]
      exact ⟨h4.1, h5, h4.1, h5, by rw [h4.2.1, h4.2.2]; exact h⟩
    · rw [if_pos (by omega)]
      refine ⟨by omega, x % y, Nat.mod_lt _ (by omega), y, x % y, .dat (.int ((x : Int).fmod y)), ?_, rfl, ?_⟩
      · have : (x : Int).fmod y = ((x % y : Nat) : Int) := by rw [Int.fmod_eq_emod_of_nonneg _ (by omega)]; rfl
        rw [this]
      · rw [gcd_emod]; exact hg
def isWhole : D → Bool
  | .int _ => true
  | _ => false
def sp_l_whole : SpD := fun ds Q _ => match ds with | [d] => (tyS d).isSome = true ∧ Q (.bl (isWhole d)) | _ => False
theorem r_l_whole (ds M Q E) (h : pur sp_l_whole ds M Q E) : t_l_whole (endsOf Q E) (startE [false] 1 ds) M := by
  unfold pur sp_l_whole at h
  dsimp only at h
  split at h
  · obtain ⟨h1, h⟩ := h
    rename_i d
    cases d <;> first | (simp [tyS] at h1; done) | (simp! [t_l_whole, oIsi, tyS, Option.isSome, isD]; simpa [isWhole] using h)
  · exact h.elim
def sp_l_fraction : SpD := fun ds Q _ => match ds with | [x, .int t, .int b] => ∃ p, x = fD p ∧ Sm p.num ∧ Sm p.den ∧ Sm t ∧ Sm b ∧ Q (.bl (decide (p.num * b = t * p.den))) | _ => False
theorem r_l_fraction (ds M Q E) (h : pur sp_l_fraction ds M Q E) : t_l_fraction (pur sp_l_whole) (pur sp_l_lowest) (endsOf Q E) (startE [false, false, false] 3 ds) M := by
  unfold pur sp_l_fraction at h
  dsimp only at h
  split at h
  · obtain ⟨p, rfl, h1, h2, h3, h4, h⟩ := h
    have hp := den_pos p
    simp! [t_l_fraction, tyS, Option.isSome, sp_l_whole, isWhole, sp_l_lowest]
    rw [if_pos hp, divInt_self_parts, if_pos rfl]
    exact ⟨hp, h2, h1, h4, h3, h2, h⟩
  · exact h.elim
theorem fD_inj {p q : Rat} (h : fD p = fD q) : p = q := by
  unfold fD at h
  injection h with h
  injection h with h1 h
  injection h with h2 _
  injection h1 with h1
  injection h2 with h2
  exact Rat.ext h1 (by omega)
theorem e_l_fraction {p : Rat} {t b : Int} {Q : D → Prop} {E : Str → Prop} : sp_l_fraction [fD p, .int t, .int b] Q E = (Sm p.num ∧ Sm p.den ∧ Sm t ∧ Sm b ∧ Q (.bl (decide (p.num * b = t * p.den)))) :=
  propext ⟨fun ⟨q, e, h⟩ => by cases fD_inj e; exact h, fun h => ⟨p, rfl, h⟩⟩
def bd50 (i : Int) : Prop := -(10 ^ 50) < i ∧ i < 10 ^ 50
theorem bd50.sm {i : Int} (h : bd50 i) : Sm i := by unfold bd50 at h; exact sm_lit (by omega) (by omega)

end Z

namespace Z
open PySem L2
local macro_rules | `(tactic| simp! [$xs,*]) => `(tactic| simp only [$xs,*, ↓dSeq, ↓dAsg, ↓dOp, ↓dVar, ↓dVarR, ↓dC, ↓dCall, ↓dCons, ↓dNil, ↓dIf, ↓dRet, ↓dRetN, ↓dTup, ↓dTst, ↓dNeg, ↓dNext, ↓dCB, ↓dLstOf, ↓dLst, ↓dCat, ↓dSlL, ↓dSlS, ↓dONone, ↓dOSome, ↓dList1, ↓dChain, ↓dChain3, ↓dAndT, ↓dOrT, ↓dNotT, ↓dAndV, ↓dOrV, ↓dNotV, ↓dIfE, ↓dTru, ↓dOwn, ↓dAsgG, ↓dPar, ↓dDrop, ↓dAugI, ↓dBreak, ↓dCont, ↓dgName, ↓dgNil, ↓dgCons, ↓dgTup, ↓dFrz, ↓frzE, ↓dItA, ↓dItB, ↓dRng1, ↓dRng2, ↓dEnum, ↓dFor, ↓dSM, ↓dSM0, ↓dRepN, ↓dLc, ↓dYes, ↓wipeE, ↓dStore, ↓dLmut, ↓lmPre, ↓lmAt, ↓isLst, ↓kNx, ↓kSet, ↓lmAppend, ↓lmExtend, ↓lmPop, ↓lmPopAt, ↓lmClear, ↓lmInsert, ↓lmSet, ↓dAugL, ↓dAugS, ↓lmAugS, ↓dMake, ↓dMake0, ↓dMeth, ↓dFld, ↓dSetF, ↓dTry, ↓dTryM, ↓exM, ↓dRaise, ↓endsOf, ↓startE, ↓entOf, ↓ga, ↓pur, ↓dDnew, ↓dDput, ↓dDget, ↓dDsetd, ↓dLmX, ↓dFrzM, ↓dZip, ↓dListRev, ↓oListRev, ↓dOrG, ↓dLstM, ↓onDic, ↓onDicR, ↓onLst, ↓obD, ↓dVarP, ↓dItC, ↓onIns, ↓endsW, ↓drf_int, ↓drf_str, ↓drf_bl, ↓drf_non, ↓drf_lst, ↓drf_tup, ↓drf_obj, ↓drf_dic, ↓drf_cls, ↓drf_exc, ↓drf_ty, ↓drf_ref, ↓drfO_dic, ↓drfO_lst, ↓drfO_ins, ↓drfO_non, ↓oLen_d, ↓oIn_d, ↓oNotIn_d, ↓oIn_dt, ↓oNotIn_dt, ↓kOkB_s, ↓kOkB_i, ↓oAdd_i, ↓oAdd_s, ↓oAdd_t, ↓oAdd_l, ↓oSub_i, ↓oMul_i, ↓oMulA_i, ↓oMulA_s, ↓oFdiv_i, ↓oMod_i, ↓oPow_i, ↓oLt_i, ↓oLe_i, ↓oGt_i, ↓oGe_i, ↓oEq_i, ↓oEq_s, ↓oEq_b, ↓oEq_nn, ↓oEq_ni, ↓oEq_in, ↓oEq_ns, ↓oEq_sn, ↓oNe_i, ↓oNe_s, ↓oNe_b, ↓oNe_nn, ↓oNe_ni, ↓oNe_in, ↓oNe_ns, ↓oNe_sn, ↓oIsN_, ↓oNotN_, ↓isNon_int, ↓isNon_str, ↓isNon_bl, ↓isNon_non, ↓isNon_lst, ↓isNon_tup, ↓isNon_obj, ↓isNon_exc, ↓isNon_dic, ↓oLen_s, ↓oLen_l, ↓oLen_t, ↓oAbs_, ↓oMax2_, ↓oMin2_, ↓oInt1_i, ↓oInt1_b, ↓oInt1_s, ↓oStr1_, ↓oTuple1_l, ↓oTuple1_t, ↓oList1_l, ↓oList1_t, ↓oCat_l, ↓truD_n, ↓truD_b, ↓truD_i, ↓truD_s, ↓truD_l, ↓truD_t, ↓onStr_s, ↓soStarts_, ↓soUpper_, ↓soLower_, ↓soIsupper_, ↓soFind_, ↓soStrip_, ↓soPart_, ↓soSplit_, ↓soJoin_l, ↓soJoin_t, ↓oSlL_l, ↓oSlS_l, ↓oSlS_t, ↓oSlS_s, ↓isi_int_int, ↓isi_int_str, ↓isi_int_bool, ↓isi_int_NoneType, ↓isi_int_list, ↓isi_int_tuple, ↓isi_bool_int, ↓isi_bool_str, ↓isi_bool_bool, ↓isi_bool_NoneType, ↓isi_bool_list, ↓isi_bool_tuple, ↓isi_tuple_int, ↓isi_tuple_str, ↓isi_tuple_bool, ↓isi_tuple_NoneType, ↓isi_tuple_list, ↓isi_tuple_tuple, ↓isi_str_int, ↓isi_str_str, ↓isi_str_bool, ↓isi_str_NoneType, ↓isi_str_list, ↓isi_str_tuple, ↓isi_list_int, ↓isi_list_str, ↓isi_list_bool, ↓isi_list_NoneType, ↓isi_list_list, ↓isi_list_tuple, ↓oIx_t0, ↓oIx_l0, ↓oIx_t1, ↓oIx_l1, ↓oIx_t2, ↓oIx_l2, ↓oIx_t3, ↓oIx_l3, ↓oIx_t4, ↓oIx_l4, ↓oIx_t5, ↓oIx_l5, ↓oIx_f0, ↓oIx_f1, ↓drf_fD, ↓oLen_f, ↓isi_tuple_f, ↓isi_int_f, ↓eq_fD, ↓ne_fD, ofS_inj, mem_ofS, mem_ofS0, putD_nil, putD_cons, updM_same, String.reduceEq, Nat.reduceLT, true_or, or_true, false_or, or_false, true_and, and_true, false_and, and_false, List.set_cons_zero, List.set_cons_succ, List.map_cons, List.map_nil, if_true, if_false, Bool.false_eq_true, decide_eq_true_eq, List.length_cons, List.length_nil, Int.reduceNe, Int.reduceLT, Int.reduceLE, Int.reduceEq, Int.reduceToNat, Int.reducePow, Int.reduceNeg, Int.reduceAdd, Int.reduceMul, Int.reduceSub, Nat.reduceAdd, Nat.reduceLeDiff, Nat.reduceEqDiff, Int.cast_ofNat_Int, Bool.true_eq_false, ite_not, sizeLine_eq, true_and, and_true, and_self, Int.fmod_eq_emod_of_nonneg, Int.fdiv_eq_ediv_of_nonneg, Bool.not_true, Bool.not_false, Bool.not_eq_true', decide_eq_false_iff_not, decide_true, decide_false])
def t_sum_of (p_fraction : SpM) : DTS :=
 (dRet (dCall p_fraction (dCons (dOp oAdd (dOp oMulA (dOp oIx (dVarR 0) (dC (.int 0))) (dOp oIx (dVarR 1) (dC (.int 1)))) (dOp oMulA (dOp oIx (dVarR 1) (dC (.int 0))) (dOp oIx (dVarR 0) (dC (.int 1))))) (dCons (dOp oMulA (dOp oIx (dVarR 0) (dC (.int 1))) (dOp oIx (dVarR 1) (dC (.int 1)))) dNil))))

def t_product_of (p_fraction : SpM) : DTS :=
 (dRet (dCall p_fraction (dCons (dOp oMulA (dOp oIx (dVarR 0) (dC (.int 0))) (dOp oIx (dVarR 1) (dC (.int 0)))) (dCons (dOp oMulA (dOp oIx (dVarR 0) (dC (.int 1))) (dOp oIx (dVarR 1) (dC (.int 1)))) dNil))))

def t_compared : DTS :=
 (dSeq (dAsg 2 (dOp oMulA (dOp oIx (dVarR 0) (dC (.int 0))) (dOp oIx (dVarR 1) (dC (.int 1)))))
 (dSeq (dAsg 3 (dOp oMulA (dOp oIx (dVarR 1) (dC (.int 0))) (dOp oIx (dVarR 0) (dC (.int 1)))))
 (dSeq (dIf (dTst (dOp oLt (dVarR 2) (dVarR 3))) (dRet (dNeg (dC (.int 1)))) dNext)
 (dRet (dCB oInt1 (dCons (dOp oGt (dVarR 2) (dVarR 3)) dNil))))))

def t_l_some (p_l_mix : SpM) (p_l_lowest : SpM) : DTS :=
 (dSeq (dAsg 3 (dCall p_l_mix (dCons (dVar 0) (dCons (dVar 2) dNil))))
 (dSeq (dAsg 4 (dOp oMod (dVarR 0) (dOp oPow (dC (.int 10)) (dC (.int 40)))))
 (dSeq (dAsg 5 (dOp oAdd (dC (.int 1)) (dOp oMod (dVarR 1) (dOp oPow (dC (.int 10)) (dC (.int 39))))))
 (dSeq (dIf (dTst (dOp oEq (dOp oMod (dVarR 3) (dC (.int 3))) (dC (.int 1)))) (dAsg 4 (dOp oMod (dOp oFdiv (dVarR 3) (dC (.int 6))) (dC (.int 20)))) dNext)
 (dSeq (dIf (dTst (dOp oGt (dOp oMod (dVarR 3) (dC (.int 5))) (dC (.int 1)))) (dAsg 5 (dOp oAdd (dC (.int 1)) (dOp oMod (dOp oFdiv (dVarR 3) (dC (.int 120))) (dC (.int 12))))) dNext)
 (dSeq (dIf (dTst (dOp oEq (dOp oMod (dOp oFdiv (dVarR 3) (dC (.int 15))) (dC (.int 2))) (dC (.int 1)))) (dAsg 4 (dNeg (dVarR 4))) dNext)
 (dRet (dCall p_l_lowest (dCons (dVar 4) (dCons (dVar 5) dNil))))))))))

/-! ### sums, products, order -/
def fits (n : Nat) (p : Rat) : Prop := p.num.natAbs < 2 ^ n ∧ p.den < 2 ^ n
theorem fits.mono {m n : Nat} {p : Rat} (h : fits m p) (e : m ≤ n) : fits n p :=
  ⟨Nat.lt_of_lt_of_le h.1 (Nat.pow_le_pow_right (by decide) e), Nat.lt_of_lt_of_le h.2 (Nat.pow_le_pow_right (by decide) e)⟩
theorem fits.num {n : Nat} {p : Rat} (h : fits n p) (e : n ≤ 9000) : Sm p.num := sm_of h.1 e
theorem fits.den {n : Nat} {p : Rat} (h : fits n p) (e : n ≤ 9000) : Sm (p.den : Int) := sm_of (i := (p.den : Int)) (by have := h.2; omega) e
def Szc (p q : Rat) : Prop := ∃ m n, fits m p ∧ fits n q ∧ m + n ≤ 8900
theorem Szc.of {m n : Nat} {p q : Rat} (h1 : fits m p) (h2 : fits n q) (h : m + n ≤ 8900 := by decide) : Szc p q := ⟨m, n, h1, h2, h⟩
theorem Szc.symm {p q : Rat} (h : Szc p q) : Szc q p := by
  obtain ⟨m, n, h1, h2, h⟩ := h
  exact ⟨n, m, h2, h1, by omega⟩
theorem natAbs_lt_mul {a b : Int} {m n : Nat} (h1 : a.natAbs < 2 ^ m) (h2 : b.natAbs < 2 ^ n) : (a * b).natAbs < 2 ^ (m + n) := by
  rw [Int.natAbs_mul, Nat.pow_add]
  exact Nat.mul_lt_mul'' h1 h2
theorem divInt_fits {a b : Int} {n : Nat} (hb : b ≠ 0) (h1 : a.natAbs < 2 ^ n) (h2 : b.natAbs < 2 ^ n) : fits n (Rat.divInt a b) := by
  obtain ⟨m, m0, e1, e2, _⟩ := frac_parts (a := a) hb
  constructor
  · have e := congrArg Int.natAbs e1
    rw [Int.natAbs_mul] at e
    have := Nat.le_mul_of_pos_right (Rat.divInt a b).num.natAbs (show 0 < m.natAbs by omega)
    omega
  · have e := congrArg Int.natAbs e2
    rw [Int.natAbs_mul] at e
    have := Nat.le_mul_of_pos_right ((Rat.divInt a b).den : Int).natAbs (show 0 < m.natAbs by omega)
    omega
theorem add_divInt (p q : Rat) : Rat.divInt (p.num * q.den + q.num * p.den) ((p.den : Int) * q.den) = p + q := by
  rw [Rat.add_def']
  have e : ((p.den : Int) * q.den) = ((p.den * q.den : Nat) : Int) := by simp
  rw [e, Rat.divInt_ofNat]
theorem mul_divInt (p q : Rat) : Rat.divInt (p.num * q.num) ((p.den : Int) * q.den) = p * q := by
  rw [Rat.mul_def']
  have e : ((p.den : Int) * q.den) = ((p.den * q.den : Nat) : Int) := by simp
  rw [e, Rat.divInt_ofNat]
theorem dd_ne (p q : Rat) : (p.den : Int) * q.den ≠ 0 := Int.mul_ne_zero (by have := den_pos p; omega) (by have := den_pos q; omega)
theorem fits.add {m n : Nat} {p q : Rat} (h1 : fits m p) (h2 : fits n q) : fits (m + n + 1) (p + q) := by
  rw [← add_divInt]
  refine divInt_fits (dd_ne p q) ?_ ?_
  · have a1 := natAbs_lt_mul h1.1 (show ((q.den : Int)).natAbs < 2 ^ n by have := h2.2; omega)
    have a2 := natAbs_lt_mul h2.1 (show ((p.den : Int)).natAbs < 2 ^ m by have := h1.2; omega)
    rw [Nat.add_comm n m] at a2
    rw [Nat.pow_succ]
    have := Int.natAbs_add_le (p.num * q.den) (q.num * p.den)
    omega
  · have := natAbs_lt_mul (show ((p.den : Int)).natAbs < 2 ^ m by have := h1.2; omega) (show ((q.den : Int)).natAbs < 2 ^ n by have := h2.2; omega)
    rw [Nat.pow_succ]
    omega
theorem fits.mul {m n : Nat} {p q : Rat} (h1 : fits m p) (h2 : fits n q) : fits (m + n) (p * q) := by
  rw [← mul_divInt]
  refine divInt_fits (dd_ne p q) (natAbs_lt_mul h1.1 h2.1) ?_
  exact natAbs_lt_mul (show ((p.den : Int)).natAbs < 2 ^ m by have := h1.2; omega) (show ((q.den : Int)).natAbs < 2 ^ n by have := h2.2; omega)
theorem Szc.sms {p q : Rat} (h : Szc p q) : Sm p.num ∧ Sm (p.den : Int) ∧ Sm q.num ∧ Sm (q.den : Int) ∧ Sm ((p.den : Int) * q.den) := by
  obtain ⟨m, n, h1, h2, h⟩ := h
  refine ⟨h1.num (by omega), h1.den (by omega), h2.num (by omega), h2.den (by omega), sm_of (n := m + n) ?_ (by omega)⟩
  exact natAbs_lt_mul (show ((p.den : Int)).natAbs < 2 ^ m by have := h1.2; omega) (show ((q.den : Int)).natAbs < 2 ^ n by have := h2.2; omega)
def sp_sum_of : SpD := fun ds Q _ => match ds with | [x, y] => ∃ p q, x = fD p ∧ y = fD q ∧ Szc p q ∧ Q (fD (p + q)) | _ => False
def sp_product_of : SpD := fun ds Q _ => match ds with | [x, y] => ∃ p q, x = fD p ∧ y = fD q ∧ Szc p q ∧ Q (fD (p * q)) | _ => False
def cmpR (p q : Rat) : Int := if p < q then -1 else if q < p then 1 else 0
def sp_compared : SpD := fun ds Q _ => match ds with | [x, y] => ∃ p q, x = fD p ∧ y = fD q ∧ Szc p q ∧ Q (.int (cmpR p q)) | _ => False
theorem sp2 {P : D → D → Prop} {ds : List D} (h : match ds with | [a, b] => P a b | _ => False) : ∃ a b, ds = [a, b] ∧ P a b := by
  split at h
  · exact ⟨_, _, rfl, h⟩
  · exact h.elim
section
variable {p q : Rat} {Q : D → Prop} {E : Str → Prop}
theorem e_sum_of : sp_sum_of [fD p, fD q] Q E = (Szc p q ∧ Q (fD (p + q))) :=
  propext ⟨fun ⟨a, b, e1, e2, h⟩ => by cases fD_inj e1; cases fD_inj e2; exact h, fun h => ⟨p, q, rfl, rfl, h⟩⟩
theorem e_product_of : sp_product_of [fD p, fD q] Q E = (Szc p q ∧ Q (fD (p * q))) :=
  propext ⟨fun ⟨a, b, e1, e2, h⟩ => by cases fD_inj e1; cases fD_inj e2; exact h, fun h => ⟨p, q, rfl, rfl, h⟩⟩
theorem e_compared : sp_compared [fD p, fD q] Q E = (Szc p q ∧ Q (.int (cmpR p q))) :=
  propext ⟨fun ⟨a, b, e1, e2, h⟩ => by cases fD_inj e1; cases fD_inj e2; exact h, fun h => ⟨p, q, rfl, rfl, h⟩⟩
end
theorem r_sum_of (ds M Q E) (h : pur sp_sum_of ds M Q E) : t_sum_of (pur sp_fraction) (endsOf Q E) (startE [false, false] 2 ds) M := by
  obtain ⟨_, _, rfl, p, q, rfl, rfl, hs, h⟩ := sp2 h
  obtain ⟨s1, s2, s3, s4, s5⟩ := hs.sms
  simp! [t_sum_of, sp_fraction, s1, s2, s3, s4, s5, add_divInt]
  exact ⟨dd_ne p q, h⟩
theorem r_product_of (ds M Q E) (h : pur sp_product_of ds M Q E) : t_product_of (pur sp_fraction) (endsOf Q E) (startE [false, false] 2 ds) M := by
  obtain ⟨_, _, rfl, p, q, rfl, rfl, hs, h⟩ := sp2 h
  obtain ⟨s1, s2, s3, s4, s5⟩ := hs.sms
  simp! [t_product_of, sp_fraction, s1, s2, s3, s4, s5, mul_divInt]
  exact ⟨dd_ne p q, h⟩
theorem r_compared (ds M Q E) (h : pur sp_compared ds M Q E) : t_compared (endsOf Q E) (startE [false, false] 4 ds) M := by
  obtain ⟨_, _, rfl, p, q, rfl, rfl, hs, h⟩ := sp2 h
  obtain ⟨s1, s2, s3, s4, s5⟩ := hs.sms
  simp! [t_compared, s1, s2, s3, s4, s5]
  unfold cmpR at h
  simp only [Rat.lt_iff] at h
  by_cases h1 : p.num * q.den < q.num * p.den
  · rw [if_pos h1] at h ⊢; exact h
  · rw [if_neg h1] at h ⊢; exact h
/-! ### drawn fractions -/
theorem divInt_le {a b : Int} (hb : b ≠ 0) : (Rat.divInt a b).num.natAbs ≤ a.natAbs ∧ (Rat.divInt a b).den ≤ b.natAbs := by
  obtain ⟨m, m0, e1, e2, _⟩ := frac_parts (a := a) hb
  constructor
  · have e := congrArg Int.natAbs e1
    rw [Int.natAbs_mul] at e
    have := Nat.le_mul_of_pos_right (Rat.divInt a b).num.natAbs (show 0 < m.natAbs by omega)
    omega
  · have e := congrArg Int.natAbs e2
    rw [Int.natAbs_mul] at e
    have := Nat.le_mul_of_pos_right ((Rat.divInt a b).den : Int).natAbs (show 0 < m.natAbs by omega)
    omega
def fits40 (p : Rat) : Prop := p.num.natAbs < 10 ^ 40 ∧ p.den < 10 ^ 40
def sp_l_some : SpD := fun ds Q _ => match ds with | [.int c, .int e, .int k] => kOk k ∧ ∀ p, fits 140 p → fits40 p → Q (fD p) | _ => False
theorem sp3i {P : Int → Int → Int → Prop} {ds : List D} (h : match ds with | [.int a, .int b, .int c] => P a b c | _ => False) : ∃ a b c, ds = [.int a, .int b, .int c] ∧ P a b c := by
  split at h
  · exact ⟨_, _, _, rfl, h⟩
  · exact h.elim
theorem r_l_some (ds M Q E) (h : pur sp_l_some ds M Q E) : t_l_some (pur sp_l_mix) (pur sp_l_lowest) (endsOf Q E) (startE [false, false, false] 6 ds) M := by
  obtain ⟨c, e, k, rfl, hk, h⟩ := sp3i h
  have m0 := mix_lo c k
  have m1 := mix_hi c k
  have C0 := Int.emod_nonneg c (show (10000000000000000000000000000000000000000 : Int) ≠ 0 by decide)
  have C1 := Int.emod_lt_of_pos c (show (0 : Int) < 10000000000000000000000000000000000000000 by decide)
  have E0 := Int.emod_nonneg e (show (1000000000000000000000000000000000000000 : Int) ≠ 0 by decide)
  have E1 := Int.emod_lt_of_pos e (show (0 : Int) < 1000000000000000000000000000000000000000 by decide)
  have fin : ∀ t b : Int, 0 < b → t.natAbs < 10 ^ 40 → b.natAbs < 10 ^ 40 → 0 < b ∧ Sm b ∧ Q (fD (Rat.divInt t b)) M := fun t b h1 h2 h3 =>
    ⟨h1, sm_lit (by omega) (by omega), h _ (divInt_fits (by omega) (by omega) (by omega)) (by have := divInt_le (a := t) (b := b) (by omega); unfold fits40; omega)⟩
  clear h
  have sl : ∀ i : Int, 0 ≤ i → i < 1000 → Sm i := fun i h1 h2 => sm_lit (by omega) (by omega)
  have cp : ∀ n : Int, 0 ≤ n → n ≤ 100 → CPow 10 n := fun n h1 h2 => ⟨h1, by omega, by decide⟩
  simp! [t_l_some, sp_l_mix, hk, sp_l_lowest]
  generalize mix c k = m at *
  refine ⟨cp _ (by decide) (by decide), cp _ (by decide) (by decide), ?_⟩
  split <;> split <;> (try refine ⟨sl _ (by decide) (by decide), ?_⟩) <;> (try refine ⟨sl _ (by decide) (by decide), ?_⟩) <;> (try refine ⟨sl _ (by decide) (by decide), ?_⟩) <;> split <;> exact fin _ _ (by omega) (by omega) (by omega)
/-- the cells of a script and those put behind it -/
theorem cell_of {ns ms : List Int} {i : Nat} {y : D} (h : (ns.map D.int ++ ms.map D.int)[i]? = some y) : ∃ c, y = .int c ∧ i < ns.length + ms.length := by
  have hl := (List.getElem?_eq_some_iff.mp h).1
  rw [← List.map_append, List.getElem?_map] at h
  obtain ⟨c, _, e⟩ := Option.map_eq_some_iff.mp h
  exact ⟨c, e.symm, by simpa using hl⟩

end Z

namespace Z
open PySem L2
local macro_rules | `(tactic| simp! [$xs,*]) => `(tactic| simp only [$xs,*, ↓dSeq, ↓dAsg, ↓dOp, ↓dVar, ↓dVarR, ↓dC, ↓dCall, ↓dCons, ↓dNil, ↓dIf, ↓dRet, ↓dRetN, ↓dTup, ↓dTst, ↓dNeg, ↓dNext, ↓dCB, ↓dLstOf, ↓dLst, ↓dCat, ↓dSlL, ↓dSlS, ↓dONone, ↓dOSome, ↓dList1, ↓dChain, ↓dChain3, ↓dAndT, ↓dOrT, ↓dNotT, ↓dAndV, ↓dOrV, ↓dNotV, ↓dIfE, ↓dTru, ↓dOwn, ↓dAsgG, ↓dPar, ↓dDrop, ↓dAugI, ↓dBreak, ↓dCont, ↓dgName, ↓dgNil, ↓dgCons, ↓dgTup, ↓dFrz, ↓frzE, ↓dItA, ↓dItB, ↓dRng1, ↓dRng2, ↓dEnum, ↓dFor, ↓dSM, ↓dSM0, ↓dRepN, ↓dLc, ↓dYes, ↓wipeE, ↓dStore, ↓dLmut, ↓lmPre, ↓lmAt, ↓isLst, ↓kNx, ↓kSet, ↓lmAppend, ↓lmExtend, ↓lmPop, ↓lmPopAt, ↓lmClear, ↓lmInsert, ↓lmSet, ↓dAugL, ↓dAugS, ↓lmAugS, ↓dMake, ↓dMake0, ↓dMeth, ↓dFld, ↓dSetF, ↓dTry, ↓dTryM, ↓exM, ↓dRaise, ↓endsOf, ↓startE, ↓entOf, ↓ga, ↓pur, ↓dDnew, ↓dDput, ↓dDget, ↓dDsetd, ↓dLmX, ↓dFrzM, ↓dZip, ↓dListRev, ↓oListRev, ↓dOrG, ↓dLstM, ↓onDic, ↓onDicR, ↓onLst, ↓obD, ↓dVarP, ↓dItC, ↓onIns, ↓endsW, ↓drf_int, ↓drf_str, ↓drf_bl, ↓drf_non, ↓drf_lst, ↓drf_tup, ↓drf_obj, ↓drf_dic, ↓drf_cls, ↓drf_exc, ↓drf_ty, ↓drf_ref, ↓drfO_dic, ↓drfO_lst, ↓drfO_ins, ↓drfO_non, ↓oLen_d, ↓oIn_d, ↓oNotIn_d, ↓oIn_dt, ↓oNotIn_dt, ↓kOkB_s, ↓kOkB_i, ↓oAdd_i, ↓oAdd_s, ↓oAdd_t, ↓oAdd_l, ↓oSub_i, ↓oMul_i, ↓oMulA_i, ↓oMulA_s, ↓oFdiv_i, ↓oMod_i, ↓oPow_i, ↓oLt_i, ↓oLe_i, ↓oGt_i, ↓oGe_i, ↓oEq_i, ↓oEq_s, ↓oEq_b, ↓oEq_nn, ↓oEq_ni, ↓oEq_in, ↓oEq_ns, ↓oEq_sn, ↓oNe_i, ↓oNe_s, ↓oNe_b, ↓oNe_nn, ↓oNe_ni, ↓oNe_in, ↓oNe_ns, ↓oNe_sn, ↓oIsN_, ↓oNotN_, ↓isNon_int, ↓isNon_str, ↓isNon_bl, ↓isNon_non, ↓isNon_lst, ↓isNon_tup, ↓isNon_obj, ↓isNon_exc, ↓isNon_dic, ↓oLen_s, ↓oLen_l, ↓oLen_t, ↓oAbs_, ↓oMax2_, ↓oMin2_, ↓oInt1_i, ↓oInt1_b, ↓oInt1_s, ↓oStr1_, ↓oTuple1_l, ↓oTuple1_t, ↓oList1_l, ↓oList1_t, ↓oCat_l, ↓truD_n, ↓truD_b, ↓truD_i, ↓truD_s, ↓truD_l, ↓truD_t, ↓onStr_s, ↓soStarts_, ↓soUpper_, ↓soLower_, ↓soIsupper_, ↓soFind_, ↓soStrip_, ↓soPart_, ↓soSplit_, ↓soJoin_l, ↓soJoin_t, ↓oSlL_l, ↓oSlS_l, ↓oSlS_t, ↓oSlS_s, ↓isi_int_int, ↓isi_int_str, ↓isi_int_bool, ↓isi_int_NoneType, ↓isi_int_list, ↓isi_int_tuple, ↓isi_bool_int, ↓isi_bool_str, ↓isi_bool_bool, ↓isi_bool_NoneType, ↓isi_bool_list, ↓isi_bool_tuple, ↓isi_tuple_int, ↓isi_tuple_str, ↓isi_tuple_bool, ↓isi_tuple_NoneType, ↓isi_tuple_list, ↓isi_tuple_tuple, ↓isi_str_int, ↓isi_str_str, ↓isi_str_bool, ↓isi_str_NoneType, ↓isi_str_list, ↓isi_str_tuple, ↓isi_list_int, ↓isi_list_str, ↓isi_list_bool, ↓isi_list_NoneType, ↓isi_list_list, ↓isi_list_tuple, ↓oIx_t0, ↓oIx_l0, ↓oIx_t1, ↓oIx_l1, ↓oIx_t2, ↓oIx_l2, ↓oIx_t3, ↓oIx_l3, ↓oIx_t4, ↓oIx_l4, ↓oIx_t5, ↓oIx_l5, ↓oIx_f0, ↓oIx_f1, ↓drf_fD, ↓oLen_f, ↓isi_tuple_f, ↓isi_int_f, ↓eq_fD, ↓ne_fD, ofS_inj, mem_ofS, mem_ofS0, putD_nil, putD_cons, updM_same, String.reduceEq, Nat.reduceLT, true_or, or_true, false_or, or_false, true_and, and_true, false_and, and_false, List.set_cons_zero, List.set_cons_succ, List.map_cons, List.map_nil, if_true, if_false, Bool.false_eq_true, decide_eq_true_eq, List.length_cons, List.length_nil, Int.reduceNe, Int.reduceLT, Int.reduceLE, Int.reduceEq, Int.reduceToNat, Int.reducePow, Int.reduceNeg, Int.reduceAdd, Int.reduceMul, Int.reduceSub, Nat.reduceAdd, Nat.reduceLeDiff, Nat.reduceEqDiff, Int.cast_ofNat_Int, Bool.true_eq_false, ite_not, sizeLine_eq, true_and, and_true, and_self, Int.fmod_eq_emod_of_nonneg, Int.fdiv_eq_ediv_of_nonneg, Bool.not_true, Bool.not_false, Bool.not_eq_true', decide_eq_false_iff_not, decide_true, decide_false])
def t_is_name : DTS :=
 (dSeq (dIf (dNotT (dTst (dChain oLe oLe (dC (.int 1)) (dCB oLen (dCons (dVarR 0) dNil)) (dC (.int 12))))) (dRet (dC (.bl false))) dNext)
 (dSeq (dFor (dItA (dVar 0)) (dgName 1) (dIf (dAndT (dTst (dOp oNotIn (dVarR 1) (dC (.str "abcdefghijklmnopqrstuvwxyz")))) (dAndT (dTst (dOp oNotIn (dVarR 1) (dC (.str "ABCDEFGHIJKLMNOPQRSTUVWXYZ")))) (dTst (dOp oNotIn (dVarR 1) (dC (.str "0123456789")))))) (dRet (dC (.bl false))) dNext))
 (dRet (dC (.bl true)))))

def t_is_kind (p_is_name : SpM) : DTS :=
 (dRet (dAndV (dCall p_is_name (dCons (dVar 0) dNil)) (dOp oIn (dOp oIx (dVarR 0) (dC (.int 0))) (dC (.str "ABCDEFGHIJKLMNOPQRSTUVWXYZ")))))

def t_is_word (p_is_name : SpM) : DTS :=
 (dRet (dAndV (dCall p_is_name (dCons (dVar 0) dNil)) (dOp oNotIn (dOp oIx (dVarR 0) (dC (.int 0))) (dC (.str "ABCDEFGHIJKLMNOPQRSTUVWXYZ")))))

/-! ### texts -/
abbrev cs (x : Str) : List Nat := x.cps.toList
def mkS (l : List Nat) : Str := ⟨l.toArray⟩
theorem cs_mkS (l : List Nat) : cs (mkS l) = l := by simp [cs, mkS]
theorem mkS_cs (x : Str) : mkS (cs x) = x := by
  obtain ⟨a⟩ := x
  simp [cs, mkS]
theorem len_cs (x : Str) : x.length = (cs x).length := by
  obtain ⟨a⟩ := x
  simp [cs, Str.length]
theorem str_ext {x y : Str} (h : cs x = cs y) : x = y := by rw [← mkS_cs x, ← mkS_cs y, h]
theorem cs_app (x y : Str) : cs (x ++ y) = cs x ++ cs y := by
  obtain ⟨a⟩ := x
  obtain ⟨b⟩ := y
  show (Str.append ⟨a⟩ ⟨b⟩).cps.toList = _
  simp [Str.append, cs]
def isSm (c : Nat) : Bool := decide (97 ≤ c ∧ c ≤ 122)
def isGr (c : Nat) : Bool := decide (65 ≤ c ∧ c ≤ 90)
def isFi (c : Nat) : Bool := decide (48 ≤ c ∧ c ≤ 57)
def alnum (c : Nat) : Bool := isSm c || isGr c || isFi c
theorem mem_run {l : List Nat} {a n c : Nat} (h : l = (List.range n).map (a + ·)) : c ∈ l ↔ a ≤ c ∧ c < a + n := by
  subst h
  simp only [List.mem_map, List.mem_range]
  constructor
  · rintro ⟨k, h1, rfl⟩; omega
  · rintro ⟨h1, h2⟩; exact ⟨c - a, by omega, by omega⟩
theorem mem_small (c : Nat) : decide (c ∈ (Str.ofString "abcdefghijklmnopqrstuvwxyz").cps.toList) = isSm c := by
  have := mem_run (c := c) (show (Str.ofString "abcdefghijklmnopqrstuvwxyz").cps.toList = (List.range 26).map (97 + ·) by decide +kernel)
  rw [Bool.eq_iff_iff, decide_eq_true_eq, this, isSm, decide_eq_true_eq]; omega
theorem mem_great (c : Nat) : decide (c ∈ (Str.ofString "ABCDEFGHIJKLMNOPQRSTUVWXYZ").cps.toList) = isGr c := by
  have := mem_run (c := c) (show (Str.ofString "ABCDEFGHIJKLMNOPQRSTUVWXYZ").cps.toList = (List.range 26).map (65 + ·) by decide +kernel)
  rw [Bool.eq_iff_iff, decide_eq_true_eq, this, isGr, decide_eq_true_eq]; omega
theorem mem_figs (c : Nat) : decide (c ∈ (Str.ofString "0123456789").cps.toList) = isFi c := by
  have := mem_run (c := c) (show (Str.ofString "0123456789").cps.toList = (List.range 10).map (48 + ·) by decide +kernel)
  rw [Bool.eq_iff_iff, decide_eq_true_eq, this, isFi, decide_eq_true_eq]; omega
theorem mem_alnum (c : Nat) : decide (c ∈ (Str.ofString "abcdefghijklmnopqrstuvwxyz0123456789ABCDEFGHIJKLMNOPQRSTUVWXYZ").cps.toList) = alnum c := by
  have e : (Str.ofString "abcdefghijklmnopqrstuvwxyz0123456789ABCDEFGHIJKLMNOPQRSTUVWXYZ").cps.toList = (List.range 26).map (97 + ·) ++ ((List.range 10).map (48 + ·) ++ (List.range 26).map (65 + ·)) := by decide +kernel
  rw [e, Bool.eq_iff_iff, decide_eq_true_eq, List.mem_append, List.mem_append, mem_run rfl, mem_run rfl, mem_run rfl]
  simp only [alnum, isSm, isGr, isFi, Bool.or_eq_true, decide_eq_true_eq]
  omega
theorem mem_lowfig (c : Nat) : decide (c ∈ (Str.ofString "abcdefghijklmnopqrstuvwxyz0123456789").cps.toList) = (isSm c || isFi c) := by
  have e : (Str.ofString "abcdefghijklmnopqrstuvwxyz0123456789").cps.toList = (List.range 26).map (97 + ·) ++ (List.range 10).map (48 + ·) := by decide +kernel
  rw [e, Bool.eq_iff_iff, decide_eq_true_eq, List.mem_append, mem_run rfl, mem_run rfl]
  simp only [isSm, isFi, Bool.or_eq_true, decide_eq_true_eq]
  omega
/-- x in a text, x one sign -/
theorem oIn_c {c : Nat} {z : Str} {Q : D → Prop} : oIn (.str ⟨#[c]⟩) (.str z) Q = Q (.bl (decide (c ∈ z.cps.toList))) :=
  propext ⟨fun ⟨c', e, q⟩ => by injection e with e; injection e with e; injection e with e; subst e; exact q, fun q => ⟨c, rfl, q⟩⟩
theorem oNotIn_c {c : Nat} {z : Str} {Q : D → Prop} : oNotIn (.str ⟨#[c]⟩) (.str z) Q = Q (.bl (!decide (c ∈ z.cps.toList))) :=
  propext ⟨fun ⟨c', e, q⟩ => by injection e with e; injection e with e; injection e with e; subst e; exact q, fun q => ⟨c, rfl, q⟩⟩
theorem oIx_s {z : Str} {i : Int} {n c : Nat} {Q : D → Prop} (e : i = (n : Int)) (h : (cs z)[n]? = some c) : oIx (.str z) (.int i) Q = (z.length ≤ sizeLine ∧ Q (.str ⟨#[c]⟩)) := by
  have := atI_at e h
  show (z.length ≤ sizeLine ∧ ∃ c, atI z.cps.toList i = some c ∧ Q (.str ⟨#[c]⟩)) = _
  rw [this]
  exact propext ⟨fun ⟨h1, d, e, q⟩ => by cases e; exact ⟨h1, q⟩, fun ⟨h1, q⟩ => ⟨h1, c, rfl, q⟩⟩
/-- names, kinds, words -/
def nameB (x : Str) : Bool := decide (1 ≤ (cs x).length ∧ (cs x).length ≤ 12) && (cs x).all alnum
def kindB (x : Str) : Bool := nameB x && (match cs x with | c :: _ => isGr c | [] => false)
def wordB (x : Str) : Bool := nameB x && (match cs x with | c :: _ => !isGr c | [] => false)
def sz (x : Str) : Prop := (cs x).length ≤ 1000000
theorem sz.ok {x : Str} (h : sz x) : x.length ≤ sizeLine := by rw [len_cs, sizeLine_eq]; unfold sz at h; omega
def sp_is_name : SpD := fun ds Q _ => match ds with | [.str x] => sz x ∧ Q (.bl (nameB x)) | _ => False
def sp_is_kind : SpD := fun ds Q _ => match ds with | [.str x] => sz x ∧ Q (.bl (kindB x)) | _ => False
def sp_is_word : SpD := fun ds Q _ => match ds with | [.str x] => sz x ∧ Q (.bl (wordB x)) | _ => False
theorem sp1s {P : Str → Prop} {ds : List D} (h : match ds with | [.str a] => P a | _ => False) : ∃ a, ds = [.str a] ∧ P a := by
  split at h
  · exact ⟨_, rfl, h⟩
  · exact h.elim
theorem sign_at {x : Str} {i : Nat} {d : D} (h : (signsD x)[i]? = some d) : ∃ c, (cs x)[i]? = some c ∧ d = .str ⟨#[c]⟩ := by
  unfold signsD at h
  rw [List.getElem?_map] at h
  obtain ⟨c, h1, h2⟩ := Option.map_eq_some_iff.mp h
  exact ⟨c, h1, h2.symm⟩
theorem take_all {l : List Nat} {P : Nat → Bool} {i c : Nat} (h : (l.take i).all P = true) (hc : l[i]? = some c) (hp : P c = true) : (l.take (i + 1)).all P = true := by
  rw [List.take_add_one, hc, List.all_append, h]
  simp [hp]
theorem all_false {l : List Nat} {P : Nat → Bool} {i c : Nat} (hc : l[i]? = some c) (hp : P c = false) : l.all P = false := by
  rw [Bool.eq_false_iff]
  intro h
  have := List.all_eq_true.mp h c (List.mem_of_getElem? hc)
  rw [hp] at this; cases this
theorem signs_len (x : Str) : (signsD x).length = (cs x).length := by simp [signsD, cs]
theorem r_is_name (ds M Q E) (h : pur sp_is_name ds M Q E) : t_is_name (endsOf Q E) (startE [false] 2 ds) M := by
  obtain ⟨x, rfl, hs, h'⟩ := sp1s h
  clear h
  have hz := hs.ok
  rw [sizeLine_eq] at hz
  simp! [t_is_name, hz]
  rw [len_cs]
  have hc : ∀ P : Prop, (Q (.bl (nameB x)) M → P) → P := fun P f => f h'
  by_cases hl : 1 ≤ (cs x).length ∧ (cs x).length ≤ 12
  · have l1 : (1 : Int) ≤ ((cs x).length : Int) := by omega
    have l2 : ((cs x).length : Int) ≤ 12 := by omega
    simp only [l1, l2, if_true, not_true_eq_false, if_false]
    refine ⟨fun i ρ M' => ((cs x).take i).all alnum = true ∧ (∃ r, ρ = [.dat (.str x), r]) ∧ M' = M, ⟨by simp, ⟨_, rfl⟩, rfl⟩, ?_, ?_⟩
    · rintro i d hd ρ M' ⟨ha, ⟨r, rfl⟩, rfl⟩
      obtain ⟨c, hc, rfl⟩ := sign_at hd
      simp! [oNotIn_c, mem_small, mem_great, mem_figs]
      cases hal : alnum c with
      | true =>
        have e := hal
        unfold alnum at e
        have go : (List.take (i + 1) (cs x)).all alnum = true ∧ ∃ r, [Ent.dat (D.str x), Ent.dat (D.str ⟨#[c]⟩)] = [Ent.dat (D.str x), r] := ⟨take_all ha hc hal, _, rfl⟩
        cases h1 : isSm c <;> cases h2 : isGr c <;> cases h3 : isFi c <;> rw [h1, h2, h3] at e <;> first | (cases e; done) | exact go
      | false =>
        have e := hal
        unfold alnum at e
        simp only [Bool.or_eq_false_iff] at e
        rw [e.1.1, e.1.2, e.2]
        have := all_false hc hal
        unfold nameB at h'
        rw [this, Bool.and_false] at h'
        exact h'
    · rintro ρ M' ⟨ha, ⟨r, rfl⟩, rfl⟩
      rw [signs_len, List.take_length] at ha
      simp! [dSeq]
      unfold nameB at h'
      rw [ha, decide_eq_true hl] at h'
      exact h'
  · have hn : nameB x = false := by unfold nameB; rw [decide_eq_false hl]; rfl
    rw [hn] at h'
    by_cases l1 : (1 : Int) ≤ ((cs x).length : Int)
    · have l2 : ¬ ((cs x).length : Int) ≤ 12 := by omega
      simp only [l1, l2, if_true, if_false, not_true_eq_false, not_false_eq_true]
      exact h'
    · simp only [l1, if_true, if_false, not_true_eq_false, not_false_eq_true]
      exact h'
theorem name_cons {x : Str} (h : nameB x = true) : ∃ c r, cs x = c :: r ∧ alnum c = true := by
  unfold nameB at h
  rw [Bool.and_eq_true, decide_eq_true_eq] at h
  cases e : cs x with
  | nil => rw [e] at h; simp at h
  | cons c r => rw [e] at h; simp at h; exact ⟨c, r, rfl, h.2.1⟩
theorem r_is_kind (ds M Q E) (h : pur sp_is_kind ds M Q E) : t_is_kind (pur sp_is_name) (endsOf Q E) (startE [false] 1 ds) M := by
  obtain ⟨x, rfl, hs, h'⟩ := sp1s h
  clear h
  simp! [t_is_kind, sp_is_name]
  refine ⟨hs, ?_⟩
  cases hn : nameB x with
  | false => unfold kindB at h'; rw [hn] at h'; exact h'
  | true =>
    obtain ⟨c, r, e, _⟩ := name_cons hn
    simp only [if_true]
    rw [oIx_s (i := 0) (n := 0) rfl (by rw [e]; rfl)]
    refine ⟨hs.ok, ?_⟩
    simp! [oIn_c, mem_great]
    unfold kindB at h'
    rw [hn, e] at h'
    exact h'
theorem r_is_word (ds M Q E) (h : pur sp_is_word ds M Q E) : t_is_word (pur sp_is_name) (endsOf Q E) (startE [false] 1 ds) M := by
  obtain ⟨x, rfl, hs, h'⟩ := sp1s h
  clear h
  simp! [t_is_word, sp_is_name]
  refine ⟨hs, ?_⟩
  cases hn : nameB x with
  | false => unfold wordB at h'; rw [hn] at h'; exact h'
  | true =>
    obtain ⟨c, r, e, _⟩ := name_cons hn
    simp only [if_true]
    rw [oIx_s (i := 0) (n := 0) rfl (by rw [e]; rfl)]
    refine ⟨hs.ok, ?_⟩
    simp! [oNotIn_c, mem_great]
    unfold wordB at h'
    rw [hn, e] at h'
    exact h'

/-! ### joined texts -/
theorem joinL_nil : ∀ ps : List (List Nat), TL.joinL [] ps = ps.flatten
  | [] => rfl
  | [p] => by simp [TL.joinL]
  | p :: q :: r => by
    show p ++ ([] ++ TL.joinL [] (q :: r)) = _
    rw [joinL_nil (q :: r)]; simp
theorem cs_empty : cs (Str.ofString "") = [] := by decide +kernel
theorem cs_join0 (ys : List Str) : cs (Txt.join (Str.ofString "") ys) = (ys.map cs).flatten := by
  rw [TL.join_eq]
  have := TL.tl_join (Str.ofString "") ys
  show TL.tl _ = _
  rw [this]
  have e : TL.tl (Str.ofString "") = [] := cs_empty
  rw [e, joinL_nil]
theorem ones {acc : List D} (h : ∀ (i : Nat) d, acc[i]? = some d → ∃ c, d = .str ⟨#[c]⟩) : ∃ l : List Nat, l.length = acc.length ∧ acc = (l.map fun c => (⟨#[c]⟩ : Str)).map .str := by
  induction acc with
  | nil => exact ⟨[], rfl, rfl⟩
  | cons a r ih =>
    obtain ⟨c, rfl⟩ := h 0 a rfl
    obtain ⟨l, h1, h2⟩ := ih fun i d e => h (i + 1) d e
    exact ⟨c :: l, by simp [h1], by rw [h2]; simp⟩
theorem join_ones {acc : List D} {Q : D → Prop} (h : ∀ (i : Nat) d, acc[i]? = some d → ∃ c, d = .str ⟨#[c]⟩) (hl : acc.length ≤ 100000) (q : ∀ x, (cs x).length = acc.length → Q (.str x)) : joinD (Str.ofString "") acc Q := by
  obtain ⟨l, h1, h2⟩ := ones h
  have e2 : ((l.map fun c => (⟨#[c]⟩ : Str)).map cs).flatten = l := by
    clear h1 h2
    induction l with
    | nil => rfl
    | cons c r ih => simp only [List.map_cons, List.flatten_cons, ih]; rfl
  have e3 : ((l.map fun c => (⟨#[c]⟩ : Str)).map (·.length)).sum = l.length := by
    clear h1 h2 e2
    induction l with
    | nil => rfl
    | cons c r ih =>
      simp only [List.map_cons, List.sum_cons, List.length_cons, ih]
      show 1 + r.length = r.length + 1
      omega
  refine ⟨l.map fun c => (⟨#[c]⟩ : Str), by rw [h2, strsD_map], ?_, q _ ?_⟩
  · have e0 : (Str.ofString "").length = 0 := by rw [len_cs, cs_empty]; rfl
    rw [e3, e0]; omega
  · rw [cs_join0, e2, h1]
theorem lit_len (s : String) (n : Nat) (h : (cs (Str.ofString s)).length = n) : (Str.ofString s).length = n := by rw [len_cs]; exact h
theorem ix_str {z : Str} {i : Int} {Q : D → Prop} (h0 : 0 ≤ i) (h1 : i < (cs z).length) (hz : z.length ≤ sizeLine) (q : ∀ c, (cs z)[i.toNat]? = some c → Q (.str ⟨#[c]⟩)) : oIx (.str z) (.int i) Q := by
  obtain ⟨c, hc⟩ : ∃ c, (cs z)[i.toNat]? = some c := ⟨_, List.getElem?_eq_getElem (by omega)⟩
  rw [oIx_s (i := i) (n := i.toNat) (by omega) hc]
  exact ⟨hz, q c hc⟩
theorem rng_at {lo : Int} {n i : Nat} {d : D} (h : (rngD lo n)[i]? = some d) : i < n ∧ d = .int (lo + i) := by
  unfold rngD at h
  rw [List.getElem?_map] at h
  obtain ⟨k, h1, h2⟩ := Option.map_eq_some_iff.mp h
  obtain ⟨h3, h4⟩ := List.getElem?_eq_some_iff.mp h1
  rw [List.getElem_range] at h4
  simp at h3
  subst h4
  exact ⟨h3, h2.symm⟩
theorem rng_len (lo : Int) (n : Nat) : (rngD lo n).length = n := by simp [rngD]
theorem cut_int (ns : List Int) (lo hi : Option Int) : ∃ ms : List Int, cutD (ns.map .int) lo hi = ms.map .int ∧ ms.length ≤ ns.length := by
  unfold cutD
  refine ⟨(ns.drop _).take _, by rw [List.map_take, List.map_drop], ?_⟩
  simp; omega
theorem sp1i {P : Int → Prop} {ds : List D} (h : match ds with | [.int a] => P a | _ => False) : ∃ a, ds = [.int a] ∧ P a := by
  split at h
  · exact ⟨_, rfl, h⟩
  · exact h.elim
theorem ix_mod {n : Nat} {s m : Int} (hs : 0 < s) (hn : (n : Int) = s) : ∃ j, ixN n (m.fmod s) = some j ∧ j < n := by
  rw [Int.fmod_eq_emod_of_nonneg _ (by omega)]
  have h0 := Int.emod_nonneg m (show s ≠ 0 by omega)
  have h1 := Int.emod_lt_of_pos m hs
  refine ⟨(m % s).toNat, ?_, by omega⟩
  unfold ixN
  rw [if_pos h0, if_pos (by omega)]
theorem set_ones {acc : List D} {j : Nat} {c : Nat} (h : ∀ (i : Nat) d, acc[i]? = some d → ∃ c, d = .str ⟨#[c]⟩) : ∀ (i : Nat) d, (acc.set j (.str ⟨#[c]⟩))[i]? = some d → ∃ c, d = .str ⟨#[c]⟩ := fun i d e => by
  rw [List.getElem?_set] at e
  split at e
  · split at e
    · cases e; exact ⟨c, rfl⟩
    · cases e
  · exact h i d e
/-! ### lengths -/
theorem cutS_cs (z : Str) (lo hi : Option Int) : cs (cutS z lo hi) = ((cs z).drop (HT.sIx (cs z).length 0 lo)).take (HT.sIx (cs z).length (cs z).length hi - HT.sIx (cs z).length 0 lo) := by
  unfold cutS
  simp [cs, Str.length]
theorem cutS_len (z : Str) (lo hi : Option Int) : (cutS z lo hi).length ≤ z.length := by
  rw [len_cs, len_cs, cutS_cs]
  simp; omega
theorem app_len (x y : Str) : (x ++ y).length = x.length + y.length := by rw [len_cs, len_cs, len_cs, cs_app, List.length_append]
theorem one_len (c : Nat) : (⟨#[c]⟩ : Str).length = 1 := rfl
theorem ix_all {xs : List D} {i : Int} {P : D → Prop} {Q : D → Prop} (h0 : 0 ≤ i) (h1 : i < xs.length) (hP : ∀ d ∈ xs, P d) (q : ∀ d, P d → Q d) : oIx (.lst xs) (.int i) Q := by
  rw [(ix_lt h0 h1).1]
  refine q _ (hP _ ?_)
  rw [List.getD_eq_getElem?_getD, List.getElem?_eq_getElem (by omega)]
  exact List.getElem_mem _

end Z

namespace Z
open PySem L2
local macro_rules | `(tactic| simp! [$xs,*]) => `(tactic| simp only [$xs,*, ↓dSeq, ↓dAsg, ↓dOp, ↓dVar, ↓dVarR, ↓dC, ↓dCall, ↓dCons, ↓dNil, ↓dIf, ↓dRet, ↓dRetN, ↓dTup, ↓dTst, ↓dNeg, ↓dNext, ↓dCB, ↓dLstOf, ↓dLst, ↓dCat, ↓dSlL, ↓dSlS, ↓dONone, ↓dOSome, ↓dList1, ↓dChain, ↓dChain3, ↓dAndT, ↓dOrT, ↓dNotT, ↓dAndV, ↓dOrV, ↓dNotV, ↓dIfE, ↓dTru, ↓dOwn, ↓dAsgG, ↓dPar, ↓dDrop, ↓dAugI, ↓dBreak, ↓dCont, ↓dgName, ↓dgNil, ↓dgCons, ↓dgTup, ↓dFrz, ↓frzE, ↓dItA, ↓dItB, ↓dRng1, ↓dRng2, ↓dEnum, ↓dFor, ↓dSM, ↓dSM0, ↓dRepN, ↓dLc, ↓dYes, ↓wipeE, ↓dStore, ↓dLmut, ↓lmPre, ↓lmAt, ↓isLst, ↓kNx, ↓kSet, ↓lmAppend, ↓lmExtend, ↓lmPop, ↓lmPopAt, ↓lmClear, ↓lmInsert, ↓lmSet, ↓dAugL, ↓dAugS, ↓lmAugS, ↓dMake, ↓dMake0, ↓dMeth, ↓dFld, ↓dSetF, ↓dTry, ↓dTryM, ↓exM, ↓dRaise, ↓endsOf, ↓startE, ↓entOf, ↓ga, ↓pur, ↓dDnew, ↓dDput, ↓dDget, ↓dDsetd, ↓dLmX, ↓dFrzM, ↓dZip, ↓dListRev, ↓oListRev, ↓dOrG, ↓dLstM, ↓onDic, ↓onDicR, ↓onLst, ↓obD, ↓dVarP, ↓dItC, ↓onIns, ↓endsW, ↓drf_int, ↓drf_str, ↓drf_bl, ↓drf_non, ↓drf_lst, ↓drf_tup, ↓drf_obj, ↓drf_dic, ↓drf_cls, ↓drf_exc, ↓drf_ty, ↓drf_ref, ↓drfO_dic, ↓drfO_lst, ↓drfO_ins, ↓drfO_non, ↓oLen_d, ↓oIn_d, ↓oNotIn_d, ↓oIn_dt, ↓oNotIn_dt, ↓kOkB_s, ↓kOkB_i, ↓oAdd_i, ↓oAdd_s, ↓oAdd_t, ↓oAdd_l, ↓oSub_i, ↓oMul_i, ↓oMulA_i, ↓oMulA_s, ↓oFdiv_i, ↓oMod_i, ↓oPow_i, ↓oLt_i, ↓oLe_i, ↓oGt_i, ↓oGe_i, ↓oEq_i, ↓oEq_s, ↓oEq_b, ↓oEq_nn, ↓oEq_ni, ↓oEq_in, ↓oEq_ns, ↓oEq_sn, ↓oNe_i, ↓oNe_s, ↓oNe_b, ↓oNe_nn, ↓oNe_ni, ↓oNe_in, ↓oNe_ns, ↓oNe_sn, ↓oIsN_, ↓oNotN_, ↓isNon_int, ↓isNon_str, ↓isNon_bl, ↓isNon_non, ↓isNon_lst, ↓isNon_tup, ↓isNon_obj, ↓isNon_exc, ↓isNon_dic, ↓oLen_s, ↓oLen_l, ↓oLen_t, ↓oAbs_, ↓oMax2_, ↓oMin2_, ↓oInt1_i, ↓oInt1_b, ↓oInt1_s, ↓oStr1_, ↓oTuple1_l, ↓oTuple1_t, ↓oList1_l, ↓oList1_t, ↓oCat_l, ↓truD_n, ↓truD_b, ↓truD_i, ↓truD_s, ↓truD_l, ↓truD_t, ↓onStr_s, ↓soStarts_, ↓soUpper_, ↓soLower_, ↓soIsupper_, ↓soFind_, ↓soStrip_, ↓soPart_, ↓soSplit_, ↓soJoin_l, ↓soJoin_t, ↓oSlL_l, ↓oSlS_l, ↓oSlS_t, ↓oSlS_s, ↓isi_int_int, ↓isi_int_str, ↓isi_int_bool, ↓isi_int_NoneType, ↓isi_int_list, ↓isi_int_tuple, ↓isi_bool_int, ↓isi_bool_str, ↓isi_bool_bool, ↓isi_bool_NoneType, ↓isi_bool_list, ↓isi_bool_tuple, ↓isi_tuple_int, ↓isi_tuple_str, ↓isi_tuple_bool, ↓isi_tuple_NoneType, ↓isi_tuple_list, ↓isi_tuple_tuple, ↓isi_str_int, ↓isi_str_str, ↓isi_str_bool, ↓isi_str_NoneType, ↓isi_str_list, ↓isi_str_tuple, ↓isi_list_int, ↓isi_list_str, ↓isi_list_bool, ↓isi_list_NoneType, ↓isi_list_list, ↓isi_list_tuple, ↓oIx_t0, ↓oIx_l0, ↓oIx_t1, ↓oIx_l1, ↓oIx_t2, ↓oIx_l2, ↓oIx_t3, ↓oIx_l3, ↓oIx_t4, ↓oIx_l4, ↓oIx_t5, ↓oIx_l5, ↓oIx_f0, ↓oIx_f1, ↓drf_fD, ↓oLen_f, ↓isi_tuple_f, ↓isi_int_f, ↓eq_fD, ↓ne_fD, ofS_inj, mem_ofS, mem_ofS0, putD_nil, putD_cons, updM_same, String.reduceEq, Nat.reduceLT, true_or, or_true, false_or, or_false, true_and, and_true, false_and, and_false, List.set_cons_zero, List.set_cons_succ, List.map_cons, List.map_nil, if_true, if_false, Bool.false_eq_true, decide_eq_true_eq, List.length_cons, List.length_nil, Int.reduceNe, Int.reduceLT, Int.reduceLE, Int.reduceEq, Int.reduceToNat, Int.reducePow, Int.reduceNeg, Int.reduceAdd, Int.reduceMul, Int.reduceSub, Nat.reduceAdd, Nat.reduceLeDiff, Nat.reduceEqDiff, Int.cast_ofNat_Int, Bool.true_eq_false, ite_not, sizeLine_eq, true_and, and_true, and_self, Int.fmod_eq_emod_of_nonneg, Int.fdiv_eq_ediv_of_nonneg, Bool.not_true, Bool.not_false, Bool.not_eq_true', decide_eq_false_iff_not, decide_true, decide_false])
def t_Cost_word : DTS :=
 (dRet (dC (.str "cost")))

def t_Chance_word : DTS :=
 (dRet (dC (.str "chance")))

def t_Scale_empty : DTS :=
 (dRet (dTup (dCons (dC (.int 0)) (dCons (dC (.int 1)) dNil))))

def t_Chance_empty : DTS :=
 (dRet (dTup (dCons (dC (.int 1)) (dCons (dC (.int 1)) dNil))))

def t_Scale_takes : DTS :=
 (dRet (dC (.bl true)))

def t_Chance_takes : DTS :=
 (dRet (dOp oGt (dOp oIx (dVarR 1) (dC (.int 0))) (dC (.int 0))))

def t_Scale_join (p_sum_of : SpM) : DTS :=
 (dRet (dCall p_sum_of (dCons (dVar 1) (dCons (dVar 2) dNil))))

def t_Chance_join (p_product_of : SpM) : DTS :=
 (dRet (dCall p_product_of (dCons (dVar 1) (dCons (dVar 2) dNil))))

def t_Scale_ahead (p_compared : SpM) : DTS :=
 (dRet (dOp oLt (dCall p_compared (dCons (dVar 1) (dCons (dVar 2) dNil))) (dC (.int 0))))

def t_Chance_ahead (p_compared : SpM) : DTS :=
 (dRet (dOp oGt (dCall p_compared (dCons (dVar 1) (dCons (dVar 2) dNil))) (dC (.int 0))))

def t_scale_of : DTS :=
 (dSeq (dIf (dTst (dOp oEq (dVarR 0) (dC (.str "cost")))) (dRet (dMake0 "Cost")) dNext)
 (dSeq (dIf (dTst (dOp oEq (dVarR 0) (dC (.str "chance")))) (dRet (dMake0 "Chance")) dNext)
 (dRaise "NoScale")))

theorem divInt_pos {a b : Int} (ha : 0 < a) (hb : 0 < b) : 0 < (Rat.divInt a b).num := by
  have hx := divInt_cross (a := a) (b := b) (by omega)
  have hq := den_pos (Rat.divInt a b)
  have := Int.mul_pos ha hq
  rcases Int.lt_trichotomy 0 (Rat.divInt a b).num with z | z | z
  · exact z
  · rw [← z, Int.zero_mul] at hx
    omega
  · have := Int.mul_neg_of_neg_of_pos z hb
    omega
/-! ### scales -/
def scD : Bool → D
  | true => .obj "Chance" []
  | false => .obj "Cost" []
def wordS : Bool → Str
  | true => "chance"
  | false => "cost"
theorem fD_zero : D.tup [.int 0, .int 1] = fD 0 := rfl
theorem fD_one : D.tup [.int 1, .int 1] = fD 1 := rfl
def empR : Bool → Rat
  | true => 1
  | false => 0
theorem fits_emp (c : Bool) : fits 1 (empR c) := by cases c <;> exact ⟨by decide, by decide⟩
section
variable {p q : SpM} {K : SpM → Prop} {m : Str} {c : Bool} {M : Mu}
theorem drf_sc : drf M (scD c) = scD c := by cases c <;> rfl
theorem meth_sc : methD m [("Cost", p), ("Chance", q)] (scD c) K = K (if c = true then q else p) := by
  cases c
  · exact propext ⟨fun ⟨_, _, e, h⟩ => by cases e; exact h, fun h => ⟨rfl, p, rfl, h⟩⟩
  · exact propext ⟨fun ⟨_, _, e, h⟩ => by cases e; exact h, fun h => ⟨rfl, q, rfl, h⟩⟩
end
section
variable {cs : List D} {bs : List (String × Bool)} {exs objs : List (Str × Bool)} {n : Str} {fs : List (Str × D)} {b : Bool} {Q : D → Prop} {c : D}
theorem isC_obj (h1 : c = .tup cs ∨ cs = [c]) (h2 : objs.lookup n = some b) : oIsC cs bs exs objs [.obj n fs, c] Q = Q (.bl b) := propext ⟨fun ⟨_, d, e, h⟩ => by rw [show isT bs exs objs (.obj n fs) = objs.lookup n from rfl, h2] at e; cases e; exact h, fun h => ⟨h1, b, h2, h⟩⟩
theorem isC_exc (h1 : c = .tup cs ∨ cs = [c]) (h2 : exs.lookup n = some b) : oIsC cs bs exs objs [.exc n, c] Q = Q (.bl b) := propext ⟨fun ⟨_, d, e, h⟩ => by rw [show isT bs exs objs (.exc n) = exs.lookup n from rfl, h2] at e; cases e; exact h, fun h => ⟨h1, b, h2, h⟩⟩
theorem isC_non (h1 : c = .tup cs ∨ cs = [c]) (h2 : bs.lookup "NoneType" = some b) : oIsC cs bs exs objs [.non, c] Q = Q (.bl b) := propext ⟨fun ⟨_, d, e, h⟩ => by rw [show isT bs exs objs .non = bs.lookup "NoneType" from rfl, h2] at e; cases e; exact h, fun h => ⟨h1, b, h2, h⟩⟩
end
def sp_Cost_word : SpD := fun ds Q _ => match ds with | [_] => Q (.str "cost") | _ => False
def sp_Chance_word : SpD := fun ds Q _ => match ds with | [_] => Q (.str "chance") | _ => False
def sp_Scale_empty : SpD := fun ds Q _ => match ds with | [_] => Q (fD 0) | _ => False
def sp_Chance_empty : SpD := fun ds Q _ => match ds with | [_] => Q (fD 1) | _ => False
def sp_Scale_takes : SpD := fun ds Q _ => match ds with | [_, _] => Q (.bl true) | _ => False
def sp_Chance_takes : SpD := fun ds Q _ => match ds with | [_, d] => ∃ p, d = fD p ∧ Q (.bl (decide (0 < p.num))) | _ => False
def sp_Scale_join : SpD := fun ds Q E => match ds with | [_, a, b] => sp_sum_of [a, b] Q E | _ => False
def sp_Chance_join : SpD := fun ds Q E => match ds with | [_, a, b] => sp_product_of [a, b] Q E | _ => False
def sp_Scale_ahead : SpD := fun ds Q E => match ds with | [_, a, b] => ∃ p q, a = fD p ∧ b = fD q ∧ Szc p q ∧ Q (.bl (decide (p < q))) | _ => False
def sp_Chance_ahead : SpD := fun ds Q E => match ds with | [_, a, b] => ∃ p q, a = fD p ∧ b = fD q ∧ Szc p q ∧ Q (.bl (decide (q < p))) | _ => False
theorem sp1 {P : D → Prop} {ds : List D} (h : match ds with | [a] => P a | _ => False) : ∃ a, ds = [a] ∧ P a := by
  split at h
  · exact ⟨_, rfl, h⟩
  · exact h.elim
theorem sp3 {P : D → D → D → Prop} {ds : List D} (h : match ds with | [a, b, c] => P a b c | _ => False) : ∃ a b c, ds = [a, b, c] ∧ P a b c := by
  split at h
  · exact ⟨_, _, _, rfl, h⟩
  · exact h.elim
section
variable {d : D} {p q : Rat} {Q : D → Prop} {E : Str → Prop}
theorem e_Chance_takes : sp_Chance_takes [d, fD p] Q E = Q (.bl (decide (0 < p.num))) := propext ⟨fun ⟨a, e, h⟩ => by cases fD_inj e; exact h, fun h => ⟨p, rfl, h⟩⟩
theorem e_Scale_join : sp_Scale_join [d, fD p, fD q] Q E = (Szc p q ∧ Q (fD (p + q))) := e_sum_of (E := E)
theorem e_Chance_join : sp_Chance_join [d, fD p, fD q] Q E = (Szc p q ∧ Q (fD (p * q))) := e_product_of (E := E)
theorem e_Scale_ahead : sp_Scale_ahead [d, fD p, fD q] Q E = (Szc p q ∧ Q (.bl (decide (p < q)))) := propext ⟨fun ⟨a, b, e1, e2, h⟩ => by cases fD_inj e1; cases fD_inj e2; exact h, fun h => ⟨p, q, rfl, rfl, h⟩⟩
theorem e_Chance_ahead : sp_Chance_ahead [d, fD p, fD q] Q E = (Szc p q ∧ Q (.bl (decide (q < p)))) := propext ⟨fun ⟨a, b, e1, e2, h⟩ => by cases fD_inj e1; cases fD_inj e2; exact h, fun h => ⟨p, q, rfl, rfl, h⟩⟩
end
theorem r_Cost_word (ds M Q E) (h : pur sp_Cost_word ds M Q E) : t_Cost_word (endsOf Q E) (startE [false] 1 ds) M := by
  obtain ⟨d, rfl, h⟩ := sp1 h
  simp! [t_Cost_word]; exact h
theorem r_Chance_word (ds M Q E) (h : pur sp_Chance_word ds M Q E) : t_Chance_word (endsOf Q E) (startE [false] 1 ds) M := by
  obtain ⟨d, rfl, h⟩ := sp1 h
  simp! [t_Chance_word]; exact h
theorem r_Scale_empty (ds M Q E) (h : pur sp_Scale_empty ds M Q E) : t_Scale_empty (endsOf Q E) (startE [false] 1 ds) M := by
  obtain ⟨d, rfl, h⟩ := sp1 h
  simp! [t_Scale_empty]; exact h
theorem r_Chance_empty (ds M Q E) (h : pur sp_Chance_empty ds M Q E) : t_Chance_empty (endsOf Q E) (startE [false] 1 ds) M := by
  obtain ⟨d, rfl, h⟩ := sp1 h
  simp! [t_Chance_empty]; exact h
theorem r_Scale_takes (ds M Q E) (h : pur sp_Scale_takes ds M Q E) : t_Scale_takes (endsOf Q E) (startE [false, false] 2 ds) M := by
  obtain ⟨d, e, rfl, h⟩ := sp2 h
  simp! [t_Scale_takes]; exact h
theorem r_Chance_takes (ds M Q E) (h : pur sp_Chance_takes ds M Q E) : t_Chance_takes (endsOf Q E) (startE [false, false] 2 ds) M := by
  obtain ⟨d, e, rfl, p, rfl, h'⟩ := sp2 h
  simp! [t_Chance_takes]; exact h'
theorem r_Scale_join (ds M Q E) (h : pur sp_Scale_join ds M Q E) : t_Scale_join (pur sp_sum_of) (endsOf Q E) (startE [false, false, false] 3 ds) M := by
  obtain ⟨d, a, b, rfl, h⟩ := sp3 h
  simp! [t_Scale_join]; exact h
theorem r_Chance_join (ds M Q E) (h : pur sp_Chance_join ds M Q E) : t_Chance_join (pur sp_product_of) (endsOf Q E) (startE [false, false, false] 3 ds) M := by
  obtain ⟨d, a, b, rfl, h⟩ := sp3 h
  simp! [t_Chance_join]; exact h
theorem cmp_neg (p q : Rat) : decide (cmpR p q < 0) = decide (p < q) := by
  unfold cmpR
  by_cases h : p < q
  · simp [h]
  · by_cases h2 : q < p <;> simp [h, h2]
theorem lt_asym {p q : Rat} (h : p < q) : ¬ q < p := by rw [Rat.lt_iff] at h ⊢; omega
theorem cmp_pos (p q : Rat) : decide (0 < cmpR p q) = decide (q < p) := by
  unfold cmpR
  by_cases h : p < q
  · simp [h, lt_asym h]
  · by_cases h2 : q < p <;> simp [h, h2]
theorem r_Scale_ahead (ds M Q E) (h : pur sp_Scale_ahead ds M Q E) : t_Scale_ahead (pur sp_compared) (endsOf Q E) (startE [false, false, false] 3 ds) M := by
  obtain ⟨d, a, b, rfl, p, q, rfl, rfl, hs, h⟩ := sp3 h
  simp! [t_Scale_ahead, e_compared, hs, cmp_neg]; exact h
theorem r_Chance_ahead (ds M Q E) (h : pur sp_Chance_ahead ds M Q E) : t_Chance_ahead (pur sp_compared) (endsOf Q E) (startE [false, false, false] 3 ds) M := by
  obtain ⟨d, a, b, rfl, p, q, rfl, rfl, hs, h⟩ := sp3 h
  simp! [t_Chance_ahead, e_compared, hs, cmp_pos]; exact h
def sp_scale_of : SpD := fun ds Q E => match ds with | [.str w] => (if w = "cost" then Q (scD false) else if w = "chance" then Q (scD true) else E "NoScale") | _ => False
theorem r_scale_of (ds M Q E) (h : pur sp_scale_of ds M Q E) : t_scale_of (endsOf Q E) (startE [false] 1 ds) M := by
  obtain ⟨w, rfl, h⟩ := sp1s h
  simp! [t_scale_of]; exact h
theorem e_scale_of {c : Bool} {Q : D → Prop} {E : Str → Prop} : sp_scale_of [.str (wordS c)] Q E = Q (scD c) := by
  cases c
  · show (if wordS false = "cost" then Q (scD false) else if wordS false = "chance" then Q (scD true) else E "NoScale") = _
    rw [if_pos (show wordS false = "cost" from rfl)]
  · show (if wordS true = "cost" then Q (scD false) else if wordS true = "chance" then Q (scD true) else E "NoScale") = _
    rw [if_neg (by decide), if_pos (show wordS true = "chance" from rfl)]

end Z

namespace Z
open PySem L2
local macro_rules | `(tactic| simp! [$xs,*]) => `(tactic| simp only [$xs,*, ↓dSeq, ↓dAsg, ↓dOp, ↓dVar, ↓dVarR, ↓dC, ↓dCall, ↓dCons, ↓dNil, ↓dIf, ↓dRet, ↓dRetN, ↓dTup, ↓dTst, ↓dNeg, ↓dNext, ↓dCB, ↓dLstOf, ↓dLst, ↓dCat, ↓dSlL, ↓dSlS, ↓dONone, ↓dOSome, ↓dList1, ↓dChain, ↓dChain3, ↓dAndT, ↓dOrT, ↓dNotT, ↓dAndV, ↓dOrV, ↓dNotV, ↓dIfE, ↓dTru, ↓dOwn, ↓dAsgG, ↓dPar, ↓dDrop, ↓dAugI, ↓dBreak, ↓dCont, ↓dgName, ↓dgNil, ↓dgCons, ↓dgTup, ↓dFrz, ↓frzE, ↓dItA, ↓dItB, ↓dRng1, ↓dRng2, ↓dEnum, ↓dFor, ↓dSM, ↓dSM0, ↓dRepN, ↓dLc, ↓dYes, ↓wipeE, ↓dStore, ↓dLmut, ↓lmPre, ↓lmAt, ↓isLst, ↓kNx, ↓kSet, ↓lmAppend, ↓lmExtend, ↓lmPop, ↓lmPopAt, ↓lmClear, ↓lmInsert, ↓lmSet, ↓dAugL, ↓dAugS, ↓lmAugS, ↓dMake, ↓dMake0, ↓dMeth, ↓dFld, ↓dSetF, ↓dTry, ↓dTryM, ↓exM, ↓dRaise, ↓endsOf, ↓startE, ↓entOf, ↓ga, ↓pur, ↓dDnew, ↓dDput, ↓dDget, ↓dDsetd, ↓dLmX, ↓dFrzM, ↓dZip, ↓dListRev, ↓oListRev, ↓dOrG, ↓dLstM, ↓onDic, ↓onDicR, ↓onLst, ↓obD, ↓dVarP, ↓dItC, ↓onIns, ↓endsW, ↓drf_int, ↓drf_str, ↓drf_bl, ↓drf_non, ↓drf_lst, ↓drf_tup, ↓drf_obj, ↓drf_dic, ↓drf_cls, ↓drf_exc, ↓drf_ty, ↓drf_ref, ↓drfO_dic, ↓drfO_lst, ↓drfO_ins, ↓drfO_non, ↓oLen_d, ↓oIn_d, ↓oNotIn_d, ↓oIn_dt, ↓oNotIn_dt, ↓kOkB_s, ↓kOkB_i, ↓oAdd_i, ↓oAdd_s, ↓oAdd_t, ↓oAdd_l, ↓oSub_i, ↓oMul_i, ↓oMulA_i, ↓oMulA_s, ↓oFdiv_i, ↓oMod_i, ↓oPow_i, ↓oLt_i, ↓oLe_i, ↓oGt_i, ↓oGe_i, ↓oEq_i, ↓oEq_s, ↓oEq_b, ↓oEq_nn, ↓oEq_ni, ↓oEq_in, ↓oEq_ns, ↓oEq_sn, ↓oNe_i, ↓oNe_s, ↓oNe_b, ↓oNe_nn, ↓oNe_ni, ↓oNe_in, ↓oNe_ns, ↓oNe_sn, ↓oIsN_, ↓oNotN_, ↓isNon_int, ↓isNon_str, ↓isNon_bl, ↓isNon_non, ↓isNon_lst, ↓isNon_tup, ↓isNon_obj, ↓isNon_exc, ↓isNon_dic, ↓oLen_s, ↓oLen_l, ↓oLen_t, ↓oAbs_, ↓oMax2_, ↓oMin2_, ↓oInt1_i, ↓oInt1_b, ↓oInt1_s, ↓oStr1_, ↓oTuple1_l, ↓oTuple1_t, ↓oList1_l, ↓oList1_t, ↓oCat_l, ↓truD_n, ↓truD_b, ↓truD_i, ↓truD_s, ↓truD_l, ↓truD_t, ↓onStr_s, ↓soStarts_, ↓soUpper_, ↓soLower_, ↓soIsupper_, ↓soFind_, ↓soStrip_, ↓soPart_, ↓soSplit_, ↓soJoin_l, ↓soJoin_t, ↓oSlL_l, ↓oSlS_l, ↓oSlS_t, ↓oSlS_s, ↓isi_int_int, ↓isi_int_str, ↓isi_int_bool, ↓isi_int_NoneType, ↓isi_int_list, ↓isi_int_tuple, ↓isi_bool_int, ↓isi_bool_str, ↓isi_bool_bool, ↓isi_bool_NoneType, ↓isi_bool_list, ↓isi_bool_tuple, ↓isi_tuple_int, ↓isi_tuple_str, ↓isi_tuple_bool, ↓isi_tuple_NoneType, ↓isi_tuple_list, ↓isi_tuple_tuple, ↓isi_str_int, ↓isi_str_str, ↓isi_str_bool, ↓isi_str_NoneType, ↓isi_str_list, ↓isi_str_tuple, ↓isi_list_int, ↓isi_list_str, ↓isi_list_bool, ↓isi_list_NoneType, ↓isi_list_list, ↓isi_list_tuple, ↓oIx_t0, ↓oIx_l0, ↓oIx_t1, ↓oIx_l1, ↓oIx_t2, ↓oIx_l2, ↓oIx_t3, ↓oIx_l3, ↓oIx_t4, ↓oIx_l4, ↓oIx_t5, ↓oIx_l5, ↓oIx_f0, ↓oIx_f1, ↓drf_fD, ↓oLen_f, ↓isi_tuple_f, ↓isi_int_f, ↓eq_fD, ↓ne_fD, ofS_inj, mem_ofS, mem_ofS0, putD_nil, putD_cons, updM_same, String.reduceEq, Nat.reduceLT, true_or, or_true, false_or, or_false, true_and, and_true, false_and, and_false, List.set_cons_zero, List.set_cons_succ, List.map_cons, List.map_nil, if_true, if_false, Bool.false_eq_true, decide_eq_true_eq, List.length_cons, List.length_nil, Int.reduceNe, Int.reduceLT, Int.reduceLE, Int.reduceEq, Int.reduceToNat, Int.reducePow, Int.reduceNeg, Int.reduceAdd, Int.reduceMul, Int.reduceSub, Nat.reduceAdd, Nat.reduceLeDiff, Nat.reduceEqDiff, Int.cast_ofNat_Int, Bool.true_eq_false, ite_not, sizeLine_eq, true_and, and_true, and_self, Int.fmod_eq_emod_of_nonneg, Int.fdiv_eq_ediv_of_nonneg, Bool.not_true, Bool.not_false, Bool.not_eq_true', decide_eq_false_iff_not, decide_true, decide_false])

/-! ### == of nested data -/
def pl : Nat → D → Bool
  | _, .non => true
  | _, .int _ => true
  | _, .str x => PySem.PyData.strOk x
  | n + 1, .lst xs => xs.all (pl n)
  | n + 1, .tup xs => xs.all (pl n)
  | _, _ => false
theorem pyL_map : ∀ xs : List D, pyL xs = xs.map D.py
  | [] => rfl
  | x :: xs => by show x.py :: pyL xs = _; rw [pyL_map xs]; rfl
theorem canAll {xs : List PyData} (h : ∀ x ∈ xs, PyData.canLay0 x = true) : PyData.canLayAll0 xs = true := by
  induction xs with
  | nil => simp [PyData.canLayAll0]
  | cons x xs ih =>
    unfold PyData.canLayAll0
    rw [h x List.mem_cons_self, ih fun y hy => h y (List.mem_cons_of_mem _ hy)]; rfl
theorem depAll {n : Nat} {xs : List PyData} (h : ∀ x ∈ xs, PyData.depth x ≤ n) : PyData.depthAll xs ≤ n := by
  induction xs with
  | nil => simp [PyData.depthAll]
  | cons x xs ih =>
    unfold PyData.depthAll
    have h1 := h x List.mem_cons_self
    have h2 := ih fun y hy => h y (List.mem_cons_of_mem _ hy)
    omega
theorem pl_ok : ∀ (n : Nat) (d : D), pl n d = true → PyData.canLay0 d.py = true ∧ PyData.depth d.py ≤ n
  | n, .non, _ => ⟨by simp [D.py, PyData.canLay0], by simp [D.py, PyData.depth]⟩
  | n, .int _, _ => ⟨by simp [D.py, PyData.canLay0], by simp [D.py, PyData.depth]⟩
  | n, .str x, h => ⟨by
      have h : PyData.strOk x = true := by cases n <;> exact h
      simp [D.py, PyData.canLay0, h], by simp [D.py, PyData.depth]⟩
  | n + 1, .lst xs, h => by
    have h : ∀ d ∈ xs, pl n d = true := List.all_eq_true.mp h
    have hc : ∀ x ∈ pyL xs, PyData.canLay0 x = true ∧ PyData.depth x ≤ n := fun x hx => by
      rw [pyL_map] at hx
      obtain ⟨d, hd, rfl⟩ := List.mem_map.mp hx
      exact pl_ok n d (h d hd)
    constructor
    · show PyData.canLay0 (.list (pyL xs)) = true
      unfold PyData.canLay0
      exact canAll fun x hx => (hc x hx).1
    · show PyData.depth (.list (pyL xs)) ≤ n + 1
      unfold PyData.depth
      have := depAll fun x hx => (hc x hx).2
      omega
  | n + 1, .tup xs, h => by
    have h : ∀ d ∈ xs, pl n d = true := List.all_eq_true.mp h
    have hc : ∀ x ∈ pyL xs, PyData.canLay0 x = true ∧ PyData.depth x ≤ n := fun x hx => by
      rw [pyL_map] at hx
      obtain ⟨d, hd, rfl⟩ := List.mem_map.mp hx
      exact pl_ok n d (h d hd)
    constructor
    · show PyData.canLay0 (.tuple (pyL xs)) = true
      unfold PyData.canLay0
      exact canAll fun x hx => (hc x hx).1
    · show PyData.depth (.tuple (pyL xs)) ≤ n + 1
      unfold PyData.depth
      have := depAll fun x hx => (hc x hx).2
      omega
  | 0, .lst _, h => by cases h
  | 0, .tup _, h => by cases h
  | 0, .bl _, h => by cases h
  | n + 1, .bl _, h => by cases h
  | 0, .obj _ _, h => by cases h
  | n + 1, .obj _ _, h => by cases h
  | 0, .ref _, h => by cases h
  | n + 1, .ref _, h => by cases h
  | 0, .ty _, h => by cases h
  | n + 1, .ty _, h => by cases h
  | 0, .cls _, h => by cases h
  | n + 1, .cls _, h => by cases h
  | 0, .exc _, h => by cases h
  | n + 1, .exc _, h => by cases h
  | 0, .dic _ _, h => by cases h
  | n + 1, .dic _ _, h => by cases h
theorem pl_sh {n : Nat} {d : D} (h : pl n d = true) (hn : n ≤ 64) : SeqAt.shaped d.py = true := by
  obtain ⟨h1, h2⟩ := pl_ok n d h
  unfold SeqAt.shaped
  rw [h1, decide_eq_true (by omega)]; rfl
theorem eqvAll_iff {n : Nat} (ih : ∀ d e : D, pl n d = true → pl n e = true → (PyData.eqv d.py e.py = true ↔ d = e)) : ∀ {xs ys : List D}, (∀ d ∈ xs, pl n d = true) → (∀ d ∈ ys, pl n d = true) → (PyData.eqvAll (pyL xs) (pyL ys) = true ↔ xs = ys)
  | [], [], _, _ => by simp [pyL, PyData.eqvAll]
  | [], y :: ys, _, _ => by simp [pyL, PyData.eqvAll]
  | x :: xs, [], _, _ => by simp [pyL, PyData.eqvAll]
  | x :: xs, y :: ys, h1, h2 => by
    have a := ih x y (h1 _ List.mem_cons_self) (h2 _ List.mem_cons_self)
    have b := eqvAll_iff ih (xs := xs) (ys := ys) (fun d hd => h1 d (List.mem_cons_of_mem _ hd)) fun d hd => h2 d (List.mem_cons_of_mem _ hd)
    show PyData.eqvAll (x.py :: pyL xs) (y.py :: pyL ys) = true ↔ _
    unfold PyData.eqvAll
    rw [Bool.and_eq_true, a, b, List.cons.injEq]
theorem eqv_iff : ∀ (n : Nat) (d e : D), pl n d = true → pl n e = true → (PyData.eqv d.py e.py = true ↔ d = e)
  | 0, d, e, h1, h2 => by
    cases d <;> first | (cases h1; done) | skip
    all_goals cases e <;> first | (cases h2; done) | simp [D.py, PyData.eqv]
  | n + 1, d, e, h1, h2 => by
    have ih := eqv_iff n
    cases d <;> first | (cases h1; done) | skip
    all_goals cases e <;> first | (cases h2; done) | (simp [D.py, PyData.eqv]; done) | skip
    · have := eqvAll_iff ih (List.all_eq_true.mp h1) (List.all_eq_true.mp h2)
      simp only [D.py, PyData.eqv, this, D.lst.injEq]
    · have := eqvAll_iff ih (List.all_eq_true.mp h1) (List.all_eq_true.mp h2)
      simp only [D.py, PyData.eqv, this, D.tup.injEq]
/-- == and != of nested data, not of two atoms -/
theorem eq_pl {n : Nat} {d e : D} {Q : D → Prop} (h1 : pl n d = true) (h2 : pl n e = true) (hn : n ≤ 64) (b : Bool) (hb : b = true ↔ d = e) (q : Q (.bl b)) : oEq d e Q := by
  have e1 : PyData.eqv d.py e.py = b := by
    rw [Bool.eq_iff_iff, eqv_iff n d e h1 h2, hb]
  have s1 := pl_sh h1 hn
  have s2 := pl_sh h2 hn
  unfold oEq oEqB
  split
  · rename_i i j
    have : decide (i = j) = b := by rw [Bool.eq_iff_iff, hb]; simp
    rw [this]; exact q
  · rename_i i j
    have : decide (i = j) = b := by rw [Bool.eq_iff_iff, hb]; simp
    rw [this]; exact q
  · cases n <;> cases h1
  · have : true = b := by rw [Bool.eq_iff_iff, hb]; simp
    rw [this]; exact q
  all_goals first
    | (have : false = b := by rw [Bool.eq_iff_iff, hb]; simp
       rw [this]; exact q)
    | exact ⟨s1, s2, by rw [e1]; exact q⟩
theorem ne_pl {n : Nat} {d e : D} {Q : D → Prop} (h1 : pl n d = true) (h2 : pl n e = true) (hn : n ≤ 64) (b : Bool) (hb : b = true ↔ d = e) (q : Q (.bl (!b))) : oNe d e Q :=
  eq_pl (Q := fun d => match d with | .bl b => Q (.bl (!b)) | d => Q d) h1 h2 hn b hb q

end Z

namespace Z
open PySem L2
local macro_rules | `(tactic| simp! [$xs,*]) => `(tactic| simp only [$xs,*, ↓dSeq, ↓dAsg, ↓dOp, ↓dVar, ↓dVarR, ↓dC, ↓dCall, ↓dCons, ↓dNil, ↓dIf, ↓dRet, ↓dRetN, ↓dTup, ↓dTst, ↓dNeg, ↓dNext, ↓dCB, ↓dLstOf, ↓dLst, ↓dCat, ↓dSlL, ↓dSlS, ↓dONone, ↓dOSome, ↓dList1, ↓dChain, ↓dChain3, ↓dAndT, ↓dOrT, ↓dNotT, ↓dAndV, ↓dOrV, ↓dNotV, ↓dIfE, ↓dTru, ↓dOwn, ↓dAsgG, ↓dPar, ↓dDrop, ↓dAugI, ↓dBreak, ↓dCont, ↓dgName, ↓dgNil, ↓dgCons, ↓dgTup, ↓dFrz, ↓frzE, ↓dItA, ↓dItB, ↓dRng1, ↓dRng2, ↓dEnum, ↓dFor, ↓dSM, ↓dSM0, ↓dRepN, ↓dLc, ↓dYes, ↓wipeE, ↓dStore, ↓dLmut, ↓lmPre, ↓lmAt, ↓isLst, ↓kNx, ↓kSet, ↓lmAppend, ↓lmExtend, ↓lmPop, ↓lmPopAt, ↓lmClear, ↓lmInsert, ↓lmSet, ↓dAugL, ↓dAugS, ↓lmAugS, ↓dMake, ↓dMake0, ↓dMeth, ↓dFld, ↓dSetF, ↓dTry, ↓dTryM, ↓exM, ↓dRaise, ↓endsOf, ↓startE, ↓entOf, ↓ga, ↓pur, ↓dDnew, ↓dDput, ↓dDget, ↓dDsetd, ↓dLmX, ↓dFrzM, ↓dZip, ↓dListRev, ↓oListRev, ↓dOrG, ↓dLstM, ↓onDic, ↓onDicR, ↓onLst, ↓obD, ↓dVarP, ↓dItC, ↓onIns, ↓endsW, ↓drf_int, ↓drf_str, ↓drf_bl, ↓drf_non, ↓drf_lst, ↓drf_tup, ↓drf_obj, ↓drf_dic, ↓drf_cls, ↓drf_exc, ↓drf_ty, ↓drf_ref, ↓drfO_dic, ↓drfO_lst, ↓drfO_ins, ↓drfO_non, ↓oLen_d, ↓oIn_d, ↓oNotIn_d, ↓oIn_dt, ↓oNotIn_dt, ↓kOkB_s, ↓kOkB_i, ↓oAdd_i, ↓oAdd_s, ↓oAdd_t, ↓oAdd_l, ↓oSub_i, ↓oMul_i, ↓oMulA_i, ↓oMulA_s, ↓oFdiv_i, ↓oMod_i, ↓oPow_i, ↓oLt_i, ↓oLe_i, ↓oGt_i, ↓oGe_i, ↓oEq_i, ↓oEq_s, ↓oEq_b, ↓oEq_nn, ↓oEq_ni, ↓oEq_in, ↓oEq_ns, ↓oEq_sn, ↓oNe_i, ↓oNe_s, ↓oNe_b, ↓oNe_nn, ↓oNe_ni, ↓oNe_in, ↓oNe_ns, ↓oNe_sn, ↓oIsN_, ↓oNotN_, ↓isNon_int, ↓isNon_str, ↓isNon_bl, ↓isNon_non, ↓isNon_lst, ↓isNon_tup, ↓isNon_obj, ↓isNon_exc, ↓isNon_dic, ↓oLen_s, ↓oLen_l, ↓oLen_t, ↓oAbs_, ↓oMax2_, ↓oMin2_, ↓oInt1_i, ↓oInt1_b, ↓oInt1_s, ↓oStr1_, ↓oTuple1_l, ↓oTuple1_t, ↓oList1_l, ↓oList1_t, ↓oCat_l, ↓truD_n, ↓truD_b, ↓truD_i, ↓truD_s, ↓truD_l, ↓truD_t, ↓onStr_s, ↓soStarts_, ↓soUpper_, ↓soLower_, ↓soIsupper_, ↓soFind_, ↓soStrip_, ↓soPart_, ↓soSplit_, ↓soJoin_l, ↓soJoin_t, ↓oSlL_l, ↓oSlS_l, ↓oSlS_t, ↓oSlS_s, ↓isi_int_int, ↓isi_int_str, ↓isi_int_bool, ↓isi_int_NoneType, ↓isi_int_list, ↓isi_int_tuple, ↓isi_bool_int, ↓isi_bool_str, ↓isi_bool_bool, ↓isi_bool_NoneType, ↓isi_bool_list, ↓isi_bool_tuple, ↓isi_tuple_int, ↓isi_tuple_str, ↓isi_tuple_bool, ↓isi_tuple_NoneType, ↓isi_tuple_list, ↓isi_tuple_tuple, ↓isi_str_int, ↓isi_str_str, ↓isi_str_bool, ↓isi_str_NoneType, ↓isi_str_list, ↓isi_str_tuple, ↓isi_list_int, ↓isi_list_str, ↓isi_list_bool, ↓isi_list_NoneType, ↓isi_list_list, ↓isi_list_tuple, ↓oIx_t0, ↓oIx_l0, ↓oIx_t1, ↓oIx_l1, ↓oIx_t2, ↓oIx_l2, ↓oIx_t3, ↓oIx_l3, ↓oIx_t4, ↓oIx_l4, ↓oIx_t5, ↓oIx_l5, ↓oIx_f0, ↓oIx_f1, ↓drf_fD, ↓oLen_f, ↓isi_tuple_f, ↓isi_int_f, ↓eq_fD, ↓ne_fD, ofS_inj, mem_ofS, mem_ofS0, putD_nil, putD_cons, updM_same, String.reduceEq, Nat.reduceLT, true_or, or_true, false_or, or_false, true_and, and_true, false_and, and_false, List.set_cons_zero, List.set_cons_succ, List.map_cons, List.map_nil, if_true, if_false, Bool.false_eq_true, decide_eq_true_eq, List.length_cons, List.length_nil, Int.reduceNe, Int.reduceLT, Int.reduceLE, Int.reduceEq, Int.reduceToNat, Int.reducePow, Int.reduceNeg, Int.reduceAdd, Int.reduceMul, Int.reduceSub, Nat.reduceAdd, Nat.reduceLeDiff, Nat.reduceEqDiff, Int.cast_ofNat_Int, Bool.true_eq_false, ite_not, sizeLine_eq, true_and, and_true, and_self, Int.fmod_eq_emod_of_nonneg, Int.fdiv_eq_ediv_of_nonneg, Bool.not_true, Bool.not_false, Bool.not_eq_true', decide_eq_false_iff_not, decide_true, decide_false])
def t_Scale_together (p_Chance_empty : SpM) (p_Scale_empty : SpM) (p_Chance_join : SpM) (p_Scale_join : SpM) : DTS :=
 (dSeq (dAsg 2 (dMeth "empty" [("Cost", p_Scale_empty), ("Chance", p_Chance_empty)] (dVar 0) dNil))
 (dSeq (dFor (dItA (dVar 1)) (dgName 3) (dAsg 2 (dMeth "join" [("Cost", p_Scale_join), ("Chance", p_Chance_join)] (dVar 0) (dCons (dVar 2) (dCons (dVar 3) dNil)))))
 (dRet (dVar 2))))

def t_lump_of : DTS :=
 (dRet (dTup (dCons (dC (.int 1)) (dCons (dVar 0) dNil))))

def t_lumps_beside (p_sum_of : SpM) : DTS :=
 (dRet (dTup (dCons (dOp oAdd (dOp oIx (dVarR 0) (dC (.int 0))) (dOp oIx (dVarR 1) (dC (.int 0)))) (dCons (dCall p_sum_of (dCons (dOp oIx (dVarR 0) (dC (.int 1))) (dCons (dOp oIx (dVarR 1) (dC (.int 1))) dNil))) dNil))))

def t_Scale_lumps_joined_k05 (p_product_of : SpM) (p_sum_of : SpM) : DTS :=
 (dSeq (dAsg 3 (dCall p_product_of (dCons (dTup (dCons (dOp oIx (dVarR 1) (dC (.int 0))) (dCons (dC (.int 1)) dNil))) (dCons (dOp oIx (dVarR 2) (dC (.int 1))) dNil))))
 (dSeq (dAsg 4 (dCall p_product_of (dCons (dTup (dCons (dOp oIx (dVarR 2) (dC (.int 0))) (dCons (dC (.int 1)) dNil))) (dCons (dOp oIx (dVarR 1) (dC (.int 1))) dNil))))
 (dRet (dTup (dCons (dOp oMulA (dOp oIx (dVarR 1) (dC (.int 0))) (dOp oIx (dVarR 2) (dC (.int 0)))) (dCons (dCall p_sum_of (dCons (dVar 3) (dCons (dVar 4) dNil))) dNil))))))

def t_Chance_lumps_joined_k05 (p_product_of : SpM) : DTS :=
 (dRet (dTup (dCons (dOp oMulA (dOp oIx (dVarR 1) (dC (.int 0))) (dOp oIx (dVarR 2) (dC (.int 0)))) (dCons (dCall p_product_of (dCons (dOp oIx (dVarR 1) (dC (.int 1))) (dCons (dOp oIx (dVarR 2) (dC (.int 1))) dNil))) dNil))))

def t_l_weight_k05 (p_l_mix : SpM) (p_l_lowest : SpM) : DTS :=
 (dSeq (dAsg 3 (dCall p_l_mix (dCons (dVar 0) (dCons (dVar 1) dNil))))
 (dSeq (dAsg 4 (dOp oMod (dVarR 0) (dOp oPow (dC (.int 10)) (dC (.int 12)))))
 (dSeq (dIf (dTst (dOp oEq (dOp oMod (dVarR 3) (dC (.int 3))) (dC (.int 1)))) (dAsg 4 (dOp oMod (dOp oFdiv (dVarR 3) (dC (.int 3))) (dC (.int 7)))) dNext)
 (dSeq (dAsg 5 (dOp oIx (dLstOf (dLst (dCons (dC (.int 1)) (dCons (dC (.int 2)) (dCons (dOp oAdd (dC (.int 1)) (dOp oMod (dOp oFdiv (dVarR 3) (dC (.int 21))) (dC (.int 6)))) (dCons (dOp oAdd (dC (.int 1)) (dOp oMod (dOp oFdiv (dVarR 3) (dC (.int 126))) (dOp oPow (dC (.int 10)) (dC (.int 9))))) dNil)))))) (dOp oMod (dOp oFdiv (dVarR 3) (dC (.int 3))) (dC (.int 4)))))
 (dSeq (dIf (dTru (dVarR 2)) (dAsg 4 (dOp oAdd (dVarR 4) (dCB oInt1 (dCons (dOp oEq (dVarR 4) (dC (.int 0))) dNil)))) (dIf (dTst (dOp oEq (dOp oMod (dOp oFdiv (dVarR 3) (dC (.int 12))) (dC (.int 4))) (dC (.int 0)))) (dAsg 4 (dNeg (dVarR 4))) dNext))
 (dRet (dCall p_l_lowest (dCons (dVar 4) (dCons (dVar 5) dNil)))))))))

def t_l_put : DTS :=
 (dSeq (dPar 2 3 (dCons (dCB oInt1 (dCons (dVarR 1) dNil)) (dCons (dC (.int 1)) dNil)))
 (dSeq (dFor (dItA (dVar 0)) (dgName 4) (dSeq (dIf (dTru (dVarR 1)) (dAsg 2 (dOp oMulA (dVarR 2) (dOp oIx (dVarR 4) (dC (.int 0))))) (dAsg 2 (dOp oAdd (dOp oMulA (dVarR 2) (dOp oIx (dVarR 4) (dC (.int 1)))) (dOp oMulA (dOp oIx (dVarR 4) (dC (.int 0))) (dVarR 3)))))
 (dAsg 3 (dOp oMulA (dVarR 3) (dOp oIx (dVarR 4) (dC (.int 1)))))))
 (dRet (dTup (dCons (dVar 2) (dCons (dVar 3) dNil))))))

def t_l_lump (p_l_whole : SpM) (p_l_fraction : SpM) : DTS :=
 (dSeq (dIf (dOrT (dNotT (dTru (dCB (oIsi "tuple") (dCons (dVarR 0) (dCons (dC (.ty "tuple")) dNil))))) (dOrT (dTst (dOp oNe (dCB oLen (dCons (dVarR 0) dNil)) (dC (.int 2)))) (dOrT (dNotT (dTru (dCall p_l_whole (dCons (dOp oIx (dVarR 0) (dC (.int 0))) dNil)))) (dTst (dOp oNe (dOp oIx (dVarR 0) (dC (.int 0))) (dVarR 1)))))) (dRet (dC (.bl false))) dNext)
 (dRet (dCall p_l_fraction (dCons (dOp oIx (dVarR 0) (dC (.int 1))) (dCons (dVar 2) (dCons (dVar 3) dNil))))))

def t_l_lumped (p_lumps_beside : SpM) (p_lump_of : SpM) : DTS :=
 (dSeq (dAsg 1 (dTup (dCons (dC (.int 0)) (dCons (dTup (dCons (dC (.int 0)) (dCons (dC (.int 1)) dNil))) dNil))))
 (dSeq (dFor (dItA (dVar 0)) (dgName 2) (dAsg 1 (dCall p_lumps_beside (dCons (dVar 1) (dCons (dCall p_lump_of (dCons (dVar 2) dNil)) dNil)))))
 (dRet (dVar 1))))

def t_l_lists : DTS :=
 (dSeq (dAsg 2 (dOp oMod (dVarR 1) (dC (.int 5))))
 (dRet (dTup (dCons (dSlS (dVarR 0) dONone (dOSome (dVarR 2))) (dCons (dSlS (dVarR 0) (dOSome (dVarR 2)) (dOSome (dOp oAdd (dVarR 2) (dOp oMod (dOp oFdiv (dVarR 1) (dC (.int 5))) (dC (.int 5)))))) dNil)))))

def t_law_k05 (p_l_at : SpM) (p_scale_of : SpM) (p_l_weight_k05 : SpM) (p_l_put : SpM) (p_l_fraction : SpM) (p_l_lump : SpM) (p_l_lumped : SpM) (p_l_lists : SpM) (p_l_mix : SpM) (p_Scale_together : SpM) (p_Chance_empty : SpM) (p_Scale_empty : SpM) (p_Chance_lumps_joined_k05 : SpM) (p_Scale_lumps_joined_k05 : SpM) : DTS :=
 (dSeq (dAsg 1 (dOp oEq (dOp oMod (dCall p_l_at (dCons (dVar 0) (dCons (dC (.int 0)) dNil))) (dC (.int 2))) (dC (.int 1))))
 (dCut (dAsg 2 (dCall p_scale_of (dCons (dOp oIx (dLstOf (dLst (dCons (dC (.str "cost")) (dCons (dC (.str "chance")) dNil)))) (dCB oInt1 (dCons (dVarR 1) dNil))) dNil)))
 (dSeq (dAsg 3 (dLstOf (dLc (dEnum (dCons (dSlS (dVarR 0) (dOSome (dC (.int 1))) (dOSome (dC (.int 61)))) dNil)) (dgTup 2 (dgCons (dgName 13) (dgCons (dgName 14) dgNil))) dYes (dCall p_l_weight_k05 (dCons (dVar 14) (dCons (dVar 13) (dCons (dVar 1) dNil)))) [13, 14])))
 (dSeq (dAsg 4 (dLstOf (dList1 (dCons (dVarR 3) dNil))))
 (dSeq (dAsgG (dCall p_l_put (dCons (dVar 3) (dCons (dVar 1) dNil))) (dgTup 2 (dgCons (dgName 5) (dgCons (dgName 6) dgNil))))
 (dSeq (dIf (dOrT (dNotT (dTru (dCall p_l_fraction (dCons (dMeth "together" [("Cost", p_Scale_together), ("Chance", p_Scale_together)] (dVar 2) (dCons (dVar 4) dNil)) (dCons (dVar 5) (dCons (dVar 6) dNil)))))) (dTst (dOp oNe (dVarR 4) (dVarR 3)))) (dRet (dC (.bl false))) dNext)
 (dSeq (dIf (dTst (dOp oNe (dMeth "together" [("Cost", p_Scale_together), ("Chance", p_Scale_together)] (dVar 2) (dCons (dLstOf (dLst dNil)) dNil)) (dMeth "empty" [("Cost", p_Scale_empty), ("Chance", p_Chance_empty)] (dVar 2) dNil))) (dRet (dC (.bl false))) dNext)
 (dSeq (dAsg 7 (dCall p_l_put (dCons (dVar 3) (dCons (dC (.bl false)) dNil))))
 (dSeq (dIf (dNotT (dTru (dCall p_l_lump (dCons (dCall p_l_lumped (dCons (dVar 3) dNil)) (dCons (dCB oLen (dCons (dVarR 3) dNil)) (dCons (dOp oIx (dVarR 7) (dC (.int 0))) (dCons (dOp oIx (dVarR 7) (dC (.int 1))) dNil))))))) (dRet (dC (.bl false))) dNext)
 (dSeq (dAsgG (dCall p_l_lists (dCons (dLstOf (dListRev (dVarR 3))) (dCons (dCall p_l_mix (dCons (dCall p_l_at (dCons (dVar 0) (dCons (dC (.int 0)) dNil))) (dCons (dC (.int 9)) dNil))) dNil))) (dgTup 2 (dgCons (dgName 8) (dgCons (dgName 9) dgNil))))
 (dSeq (dAsg 10 (dLstOf (dLst dNil)))
 (dSeq (dFor (dItA (dVar 8)) (dgName 11) (dAsg 10 (dOp oAdd (dVarR 10) (dLstOf (dLc (dItA (dVar 9)) (dgName 15) dYes (dCall p_l_put (dCons (dLstOf (dLst (dCons (dVar 11) (dCons (dVar 15) dNil)))) (dCons (dVar 1) dNil))) [15])))))
 (dSeq (dAsg 7 (dCall p_l_put (dCons (dVar 10) (dCons (dC (.bl false)) dNil))))
 (dSeq (dAsg 12 (dMeth "lumps_joined" [("Cost", p_Scale_lumps_joined_k05), ("Chance", p_Chance_lumps_joined_k05)] (dVar 2) (dCons (dCall p_l_lumped (dCons (dVar 8) dNil)) (dCons (dCall p_l_lumped (dCons (dVar 9) dNil)) dNil))))
 (dRet (dCall p_l_lump (dCons (dVar 12) (dCons (dOp oMulA (dCB oLen (dCons (dVarR 8) dNil)) (dCB oLen (dCons (dVarR 9) dNil))) (dCons (dOp oIx (dVarR 7) (dC (.int 0))) (dCons (dOp oIx (dVarR 7) (dC (.int 1))) dNil))))))))))))))))))))

/-! ### many together -/
def joinR (c : Bool) (p q : Rat) : Rat := if c = true then p * q else p + q
def togR (c : Bool) (ps : List Rat) : Rat := ps.foldl (joinR c) (empR c)
theorem fits.join {c : Bool} {m n : Nat} {p q : Rat} (h1 : fits m p) (h2 : fits n q) : fits (m + n + 1) (joinR c p q) := by
  unfold joinR
  split
  · exact (h1.mul h2).mono (by omega)
  · exact h1.add h2
theorem fits_fold {c : Bool} {n : Nat} : ∀ (ps : List Rat) (m : Nat) (p : Rat), fits m p → (∀ q ∈ ps, fits n q) → fits (m + (n + 1) * ps.length) (ps.foldl (joinR c) p)
  | [], m, p, h, _ => h
  | q :: ps, m, p, h, hs => by
    have := fits_fold (c := c) ps (m + n + 1) (joinR c p q) (h.join (hs q List.mem_cons_self)) fun x hx => hs x (List.mem_cons_of_mem _ hx)
    rw [List.foldl_cons, List.length_cons, Nat.mul_succ]
    exact this.mono (by omega)
theorem fits_tog {c : Bool} {n : Nat} {ps : List Rat} (h : ∀ q ∈ ps, fits n q) : fits (1 + (n + 1) * ps.length) (togR c ps) := fits_fold ps 1 _ (fits_emp c) h
/-- lists of weights that the kit's line holds -/
def small (ps : List Rat) : Prop := ps.length ≤ 1000 ∧ ∃ n, (∀ q ∈ ps, fits n q) ∧ 1 + n + (n + 1) * ps.length ≤ 8900
theorem small.at {c : Bool} {ps : List Rat} (h : small ps) (i : Nat) (p : Rat) (hp : ps[i]? = some p) : Szc (togR c (ps.take i)) p := by
  obtain ⟨_, n, h1, h2⟩ := h
  have hi := (List.getElem?_eq_some_iff.mp hp).1
  refine ⟨_, n, fits_tog fun q hq => h1 q (List.mem_of_mem_take hq), h1 p (List.mem_of_getElem? hp), ?_⟩
  have : (n + 1) * (ps.take i).length ≤ (n + 1) * ps.length := Nat.mul_le_mul_left _ (by rw [List.length_take]; omega)
  omega
theorem map_fD_inj : ∀ {a b : List Rat}, a.map fD = b.map fD → a = b
  | [], [], _ => rfl
  | [], _ :: _, h => by cases h
  | _ :: _, [], h => by cases h
  | x :: a, y :: b, h => by
    injection h with h1 h2
    rw [fD_inj h1, map_fD_inj h2]
def sp_Scale_together : SpD := fun ds Q _ => match ds with | [s, .lst xs] => ∃ c ps, s = scD c ∧ xs = ps.map fD ∧ small ps ∧ Q (fD (togR c ps)) | _ => False
theorem sc_inj {a b : Bool} (h : scD a = scD b) : a = b := by cases a <;> cases b <;> first | rfl | (unfold scD at h; injection h with h; exact absurd h (by decide))
theorem e_Scale_together {c : Bool} {ps : List Rat} {Q : D → Prop} {E : Str → Prop} : sp_Scale_together [scD c, .lst (ps.map fD)] Q E = (small ps ∧ Q (fD (togR c ps))) :=
  propext ⟨fun ⟨c2, q, e1, e2, h⟩ => by cases sc_inj e1; cases map_fD_inj e2; exact h, fun h => ⟨c, ps, rfl, rfl, h⟩⟩
theorem join_sc {c : Bool} {s : D} {p q : Rat} {M : Mu} {Q : D → Mu → Prop} {E : Str → Mu → Prop} : (if c = true then pur sp_Chance_join else pur sp_Scale_join) [s, fD p, fD q] M Q E = (Szc p q ∧ Q (fD (joinR c p q)) M) := by
  cases c
  · exact e_Scale_join (d := s) (Q := fun d => Q d M) (E := fun C => E C M)
  · exact e_Chance_join (d := s) (Q := fun d => Q d M) (E := fun C => E C M)
theorem empty_sc {c : Bool} {s : D} {M : Mu} {Q : D → Mu → Prop} {E : Str → Mu → Prop} : (if c = true then pur sp_Chance_empty else pur sp_Scale_empty) [s] M Q E = Q (fD (empR c)) M := by
  cases c <;> rfl
theorem foldl_take {α β : Type} (f : β → α → β) (b : β) (xs : List α) (i : Nat) (x : α) (h : xs[i]? = some x) : (xs.take (i + 1)).foldl f b = f ((xs.take i).foldl f b) x := by
  rw [List.take_add_one, h, List.foldl_append]; rfl
theorem r_Scale_together (ds M Q E) (h : pur sp_Scale_together ds M Q E) : t_Scale_together (pur sp_Chance_empty) (pur sp_Scale_empty) (pur sp_Chance_join) (pur sp_Scale_join) (endsOf Q E) (startE [false, false] 4 ds) M := by
  unfold pur sp_Scale_together at h
  dsimp only at h
  split at h
  · rename_i s xs
    obtain ⟨c, ps, rfl, rfl, hs, h⟩ := h
    simp! [t_Scale_together, drf_sc, meth_sc, empty_sc]
    refine ⟨fun i ρ M' => (∃ r, ρ = [.dat (scD c), .dat (.lst (ps.map fD)), .dat (fD (togR c (ps.take i))), r]) ∧ M' = M, ⟨⟨_, rfl⟩, rfl⟩, ?_, ?_⟩
    · rintro i d hd ρ M' ⟨⟨r0, rfl⟩, rfl⟩
      rw [List.getElem?_map] at hd
      obtain ⟨p, hp, rfl⟩ := Option.map_eq_some_iff.mp hd
      simp! [drf_sc, meth_sc, join_sc]
      refine ⟨hs.at i p hp, ?_⟩
      unfold togR
      rw [foldl_take _ _ _ _ _ hp]
      exact ⟨_, rfl⟩
    · rintro ρ M' ⟨⟨r0, rfl⟩, rfl⟩
      rw [List.length_map, List.take_length]
      simp! [dSeq]
      exact h
  · exact h.elim
/-! ### lumps -/
def luD (n : Int) (p : Rat) : D := .tup [.int n, fD p]
def sp_lump_of : SpD := fun ds Q _ => match ds with | [d] => Q (.tup [.int 1, d]) | _ => False
theorem r_lump_of (ds M Q E) (h : pur sp_lump_of ds M Q E) : t_lump_of (endsOf Q E) (startE [false] 1 ds) M := by
  obtain ⟨d, rfl, h⟩ := sp1 h
  simp! [t_lump_of]; exact h
theorem luD_inj {m n : Int} {p q : Rat} (h : luD m p = luD n q) : m = n ∧ p = q := by
  unfold luD at h
  injection h with h
  injection h with h1 h
  injection h with h2 _
  injection h1 with h1
  exact ⟨h1, fD_inj h2⟩
def sp_lumps_beside : SpD := fun ds Q _ => match ds with | [a, b] => ∃ m p n q, a = luD m p ∧ b = luD n q ∧ Szc p q ∧ Q (luD (m + n) (p + q)) | _ => False
theorem e_lumps_beside {m n : Int} {p q : Rat} {Q : D → Prop} {E : Str → Prop} : sp_lumps_beside [luD m p, luD n q] Q E = (Szc p q ∧ Q (luD (m + n) (p + q))) :=
  propext ⟨fun ⟨a, b, c, d, e1, e2, h⟩ => by obtain ⟨rfl, rfl⟩ := luD_inj e1; obtain ⟨rfl, rfl⟩ := luD_inj e2; exact h, fun h => ⟨m, p, n, q, rfl, rfl, h⟩⟩
theorem r_lumps_beside (ds M Q E) (h : pur sp_lumps_beside ds M Q E) : t_lumps_beside (pur sp_sum_of) (endsOf Q E) (startE [false, false] 2 ds) M := by
  obtain ⟨_, _, rfl, m, p, n, q, rfl, rfl, hs, h'⟩ := sp2 h
  unfold luD at *
  simp! [t_lumps_beside, e_sum_of, hs]
  exact h'
def sp_Scale_lumps_joined_k05 : SpD := fun ds Q _ => match ds with | [_, a, b] => ∃ (m : Nat) (p : Rat) (n : Nat) (q : Rat) (k : Nat), a = luD m p ∧ b = luD n q ∧ m < 2 ^ k ∧ n < 2 ^ k ∧ fits k p ∧ fits k q ∧ 4 * k + 10 ≤ 8900 ∧ Q (luD (m * n) ((m : Int) * q + (n : Int) * p)) | _ => False
theorem r_Scale_lumps_joined_k05 (ds M Q E) (h : pur sp_Scale_lumps_joined_k05 ds M Q E) : t_Scale_lumps_joined_k05 (pur sp_product_of) (pur sp_sum_of) (endsOf Q E) (startE [false, false, false] 5 ds) M := by
  obtain ⟨d, a, b, rfl, m, p, n, q, k, rfl, rfl, hm, hn, hp, hq, hk, h'⟩ := sp3 h
  have nat : ∀ i : Nat, D.tup [.int i, .int 1] = fD ((i : Int) : Rat) := fun i => rfl
  have fn : ∀ i : Nat, i < 2 ^ k → fits (k + 1) ((i : Int) : Rat) := fun i hi => by
    refine ⟨?_, ?_⟩
    · show ((i : Int)).natAbs < _
      rw [Nat.pow_succ]; omega
    · show 1 < _
      rw [Nat.pow_succ]
      have := Nat.pos_of_ne_zero (show 2 ^ k ≠ 0 by have := Nat.two_pow_pos k; omega)
      omega
  have s1 : Szc ((m : Int) : Rat) q := ⟨k + 1, k, fn m hm, hq, by omega⟩
  have s2 : Szc ((n : Int) : Rat) p := ⟨k + 1, k, fn n hn, hp, by omega⟩
  have s3 : Szc ((m : Int) * q) ((n : Int) * p) := ⟨_, _, (fn m hm).mul hq, (fn n hn).mul hp, by omega⟩
  have m1 : Sm (m : Int) := sm_of (n := k) (by omega) (by omega)
  have m2 : Sm (n : Int) := sm_of (n := k) (by omega) (by omega)
  unfold luD at *
  simp! [t_Scale_lumps_joined_k05, nat, e_product_of, e_sum_of, s1, s2, s3, m1, m2]
  exact h'
def sp_Chance_lumps_joined_k05 : SpD := fun ds Q _ => match ds with | [_, a, b] => ∃ (m : Nat) (p : Rat) (n : Nat) (q : Rat) (k : Nat), a = luD m p ∧ b = luD n q ∧ m < 2 ^ k ∧ n < 2 ^ k ∧ fits k p ∧ fits k q ∧ 4 * k + 10 ≤ 8900 ∧ Q (luD (m * n) (p * q)) | _ => False
theorem r_Chance_lumps_joined_k05 (ds M Q E) (h : pur sp_Chance_lumps_joined_k05 ds M Q E) : t_Chance_lumps_joined_k05 (pur sp_product_of) (endsOf Q E) (startE [false, false, false] 3 ds) M := by
  obtain ⟨d, a, b, rfl, m, p, n, q, k, rfl, rfl, hm, hn, hp, hq, hk, h'⟩ := sp3 h
  have s1 : Szc p q := ⟨k, k, hp, hq, by omega⟩
  have m1 : Sm (m : Int) := sm_of (n := k) (by omega) (by omega)
  have m2 : Sm (n : Int) := sm_of (n := k) (by omega) (by omega)
  unfold luD at *
  simp! [t_Chance_lumps_joined_k05, e_product_of, s1, m1, m2]
  exact h'
/-! ### the law's own -/
def sp_l_weight_k05 : SpD := fun ds Q _ => match ds with | [.int c, .int k, .bl ch] => kOk k ∧ ∀ p, fits 41 p → (ch = true → 0 < p.num) → Q (fD p) | _ => False
theorem r_l_weight_k05 (ds M Q E) (h : pur sp_l_weight_k05 ds M Q E) : t_l_weight_k05 (pur sp_l_mix) (pur sp_l_lowest) (endsOf Q E) (startE [false, false, false] 6 ds) M := by
  unfold pur sp_l_weight_k05 at h
  dsimp only at h
  split at h
  · rename_i c k ch
    obtain ⟨hk, h⟩ := h
    have m0 := mix_lo c k
    have m1 := mix_hi c k
    have cp : ∀ n : Int, 0 ≤ n → n ≤ 100 → CPow 10 n := fun n h1 h2 => ⟨h1, by omega, by decide⟩
    have C0 := Int.emod_nonneg c (show (1000000000000 : Int) ≠ 0 by decide)
    have C1 := Int.emod_lt_of_pos c (show (0 : Int) < 1000000000000 by decide)
    have sl : ∀ i : Int, 0 ≤ i → i < 100000 → Sm i := fun i h1 h2 => sm_lit (by omega) (by omega)
    have s1 := sl 3 (by decide) (by decide)
    have s2 := sl 7 (by decide) (by decide)
    have s3 := sl 21 (by decide) (by decide)
    have s4 := sl 6 (by decide) (by decide)
    have s5 := sl 126 (by decide) (by decide)
    have s6 := sl 4 (by decide) (by decide)
    have s7 := sl 12 (by decide) (by decide)
    have c1 := cp 12 (by decide) (by decide)
    have c2 := cp 9 (by decide) (by decide)
    simp! [t_l_weight_k05, sp_l_mix, hk, s1, s2, s3, s4, s5, s6, s7, c1, c2]
    generalize mix c k = m at *
    have go : ∀ b : Int, 0 < b → b < 2 ^ 40 → ∀ t2 : Int, t2.natAbs ≤ 1000000000000 → (ch = true → 0 < t2) → 0 < b ∧ Sm b ∧ Q (fD (Rat.divInt t2 b)) M := fun b b0 b1 t2 z1 z2 =>
      ⟨b0, sm_lit (by omega) (by omega), h _ (divInt_fits (by omega) (by omega) (by omega)) fun z => divInt_pos (z2 z) b0⟩
    split
    all_goals
      refine ix_all (P := fun d => ∃ i : Int, d = .int i ∧ 0 < i ∧ i < 2 ^ 40) (by omega) (by simp; omega) ?_ ?_
      · intro d hd
        simp only [List.mem_cons, List.not_mem_nil, or_false] at hd
        rcases hd with rfl | rfl | rfl | rfl <;> exact ⟨_, rfl, by omega, by omega⟩
      · rintro d ⟨b, rfl, b0, b1⟩
        cases ch
        · simp! [sp_l_lowest, s6, s7]
          split
          · exact go b b0 b1 _ (by omega) (by simp)
          · exact go b b0 b1 _ (by omega) (by simp)
        · simp! [sp_l_lowest]
          exact go b b0 b1 _ (by split <;> omega) (fun _ => by split <;> omega)
  · exact h.elim
/-- pairs of numbers as fractions -/
def prD (q : Int × Int) : D := .tup [.int q.1, .int q.2]
def prR (q : Int × Int) : Rat := Rat.divInt q.1 q.2
def prOk (n : Nat) (q : Int × Int) : Prop := 0 < q.2 ∧ q.1.natAbs < 2 ^ n ∧ q.2.natAbs < 2 ^ n
def put1 (c : Bool) (s q : Int × Int) : Int × Int := (if c = true then s.1 * q.1 else s.1 * q.2 + q.1 * s.2, s.2 * q.2)
theorem put1_r {c : Bool} {s q : Int × Int} (hs : 0 < s.2) (hq : 0 < q.2) : prR (put1 c s q) = joinR c (prR s) (prR q) := by
  unfold prR put1 joinR
  cases c
  · simp only [Bool.false_eq_true, if_false]
    rw [Rat.divInt_add_divInt _ _ (by omega) (by omega)]
  · simp only [if_true]
    rw [Rat.divInt_mul_divInt]
theorem put1_ok {c : Bool} {m n : Nat} {s q : Int × Int} (hs : prOk m s) (hq : prOk n q) : prOk (m + n + 1) (put1 c s q) := by
  obtain ⟨s1, s2, s3⟩ := hs
  obtain ⟨q1, q2, q3⟩ := hq
  have a1 := natAbs_lt_mul s2 q2
  have a2 := natAbs_lt_mul s2 q3
  have a3 := natAbs_lt_mul q2 s3
  have a4 := natAbs_lt_mul s3 q3
  rw [Nat.add_comm n m] at a3
  unfold put1
  refine ⟨Int.mul_pos s1 q1, ?_, ?_⟩
  · rw [Nat.pow_succ]
    cases c
    · simp only [Bool.false_eq_true, if_false]
      have := Int.natAbs_add_le (s.1 * q.2) (q.1 * s.2)
      omega
    · simp only [if_true]
      omega
  · rw [Nat.pow_succ]
    show (s.2 * q.2).natAbs < _
    omega
def putP (c : Bool) (qs : List (Int × Int)) : Int × Int := qs.foldl (put1 c) (if c = true then 1 else 0, 1)
theorem put0 (c : Bool) : prOk 1 (if c = true then 1 else 0, 1) ∧ prR (if c = true then 1 else 0, 1) = empR c := by
  cases c
  · exact ⟨⟨by decide, by decide, by decide⟩, by decide⟩
  · exact ⟨⟨by decide, by decide, by decide⟩, by decide⟩
theorem put_fold {c : Bool} {n : Nat} : ∀ (qs : List (Int × Int)) (m : Nat) (s : Int × Int), prOk m s → (∀ q ∈ qs, prOk n q) → prOk (m + (n + 1) * qs.length) (qs.foldl (put1 c) s) ∧ prR (qs.foldl (put1 c) s) = (qs.map prR).foldl (joinR c) (prR s)
  | [], m, s, h, _ => ⟨h, rfl⟩
  | q :: qs, m, s, h, hs => by
    have hq := hs q List.mem_cons_self
    obtain ⟨z1, z2⟩ := put_fold (c := c) qs (m + n + 1) (put1 c s q) (put1_ok h hq) fun x hx => hs x (List.mem_cons_of_mem _ hx)
    rw [List.foldl_cons, List.length_cons, Nat.mul_succ, List.map_cons, List.foldl_cons]
    rw [put1_r h.1 hq.1] at z2
    exact ⟨by rw [show m + ((n + 1) * qs.length + (n + 1)) = m + n + 1 + (n + 1) * qs.length by omega]; exact z1, z2⟩
theorem putP_ok {c : Bool} {n : Nat} {qs : List (Int × Int)} (h : ∀ q ∈ qs, prOk n q) : prOk (1 + (n + 1) * qs.length) (putP c qs) ∧ prR (putP c qs) = togR c (qs.map prR) := by
  obtain ⟨z1, z2⟩ := put_fold (c := c) qs 1 _ (put0 c).1 h
  rw [(put0 c).2] at z2
  exact ⟨z1, z2⟩
def sp_l_put : SpD := fun ds Q _ => match ds with | [.lst xs, .bl c] => ∃ (qs : List (Int × Int)) (n : Nat), xs = qs.map prD ∧ qs.length ≤ 1000 ∧ (∀ q ∈ qs, prOk n q) ∧ 2 + n + (n + 1) * qs.length ≤ 8900 ∧ Q (prD (putP c qs)) | _ => False
theorem prD_inj {a b : Int × Int} (h : prD a = prD b) : a = b := by
  unfold prD at h
  injection h with h
  injection h with h1 h
  injection h with h2 _
  injection h1 with h1
  injection h2 with h2
  exact Prod.ext h1 h2
theorem prD_map_inj : ∀ {a b : List (Int × Int)}, a.map prD = b.map prD → a = b
  | [], [], _ => rfl
  | [], _ :: _, h => by cases h
  | _ :: _, [], h => by cases h
  | x :: a, y :: b, h => by
    injection h with h1 h2
    rw [prD_inj h1, prD_map_inj h2]
theorem e_l_put {qs : List (Int × Int)} {c : Bool} {Q : D → Prop} {E : Str → Prop} (n : Nat) (h1 : qs.length ≤ 1000) (h2 : ∀ q ∈ qs, prOk n q) (h3 : 2 + n + (n + 1) * qs.length ≤ 8900) : sp_l_put [.lst (qs.map prD), .bl c] Q E = Q (prD (putP c qs)) :=
  propext ⟨fun ⟨qs', _, e, _, _, _, h⟩ => by cases prD_map_inj e; exact h, fun h => ⟨qs, n, rfl, h1, h2, h3, h⟩⟩
theorem prOk.s1 {n : Nat} {q : Int × Int} (h : prOk n q) (hn : n ≤ 8900) : Sm q.1 := sm_of h.2.1 (by omega)
theorem prOk.s2 {n : Nat} {q : Int × Int} (h : prOk n q) (hn : n ≤ 8900) : Sm q.2 := sm_of h.2.2 (by omega)
theorem r_l_put (ds M Q E) (h : pur sp_l_put ds M Q E) : t_l_put (endsOf Q E) (startE [false, false] 5 ds) M := by
  unfold pur sp_l_put at h
  dsimp only at h
  split at h
  · rename_i xs c
    obtain ⟨qs, n, rfl, hl, ho, hn, h⟩ := h
    simp! [t_l_put]
    refine ⟨fun i ρ M' => (∃ r, ρ = [.dat (.lst (qs.map prD)), .dat (.bl c), .dat (.int (putP c (qs.take i)).1), .dat (.int (putP c (qs.take i)).2), r]) ∧ M' = M, ⟨⟨_, by cases c <;> rfl⟩, rfl⟩, ?_, ?_⟩
    · rintro i d hd ρ M' ⟨⟨r0, rfl⟩, rfl⟩
      rw [List.getElem?_map] at hd
      obtain ⟨q, hq, rfl⟩ := Option.map_eq_some_iff.mp hd
      have hi := (List.getElem?_eq_some_iff.mp hq).1
      have b1 : (n + 1) * (qs.take i).length ≤ (n + 1) * qs.length := Nat.mul_le_mul_left _ (by rw [List.length_take]; omega)
      have o1 := (putP_ok (c := c) (n := n) (qs := qs.take i) fun q hq => ho q (List.mem_of_mem_take hq)).1
      have o2 := ho q (List.mem_of_getElem? hq)
      have s1 := o1.s1 (by omega)
      have s2 := o1.s2 (by omega)
      have s3 := o2.s1 (by omega)
      have s4 := o2.s2 (by omega)
      have e : putP c (qs.take (i + 1)) = put1 c (putP c (qs.take i)) q := by unfold putP; rw [foldl_take _ _ _ _ _ hq]
      unfold prD
      cases c
      · simp! [s1, s2, s3, s4, e]
        exact ⟨_, rfl⟩
      · simp! [s1, s2, s3, s4, e]
        exact ⟨_, rfl⟩
    · rintro ρ M' ⟨⟨r0, rfl⟩, rfl⟩
      rw [List.length_map, List.take_length]
      simp! [dSeq]
      exact h
  · exact h.elim
def sp_l_lump : SpD := fun ds Q _ => match ds with | [x, .int k, .int t, .int b] => ∃ n p, x = luD n p ∧ Sm p.num ∧ Sm p.den ∧ Sm t ∧ Sm b ∧ n = k ∧ p.num * b = t * p.den ∧ Q (.bl true) | _ => False
theorem r_l_lump (ds M Q E) (h : pur sp_l_lump ds M Q E) : t_l_lump (pur sp_l_whole) (pur sp_l_fraction) (endsOf Q E) (startE [false, false, false, false] 4 ds) M := by
  unfold pur sp_l_lump at h
  dsimp only at h
  split at h
  · obtain ⟨n, p, rfl, h1, h2, h3, h4, rfl, h5, h⟩ := h
    unfold luD
    simp! [t_l_lump, tyS, Option.isSome, sp_l_whole, isWhole, e_l_fraction, h1, h2, h3, h4, h5]
    exact h
  · exact h.elim
def sp_l_lumped : SpD := fun ds Q _ => match ds with | [.lst xs] => ∃ ps, xs = ps.map fD ∧ small ps ∧ Q (luD ps.length (togR false ps)) | _ => False
theorem e_l_lumped {ps : List Rat} {Q : D → Prop} {E : Str → Prop} : sp_l_lumped [.lst (ps.map fD)] Q E = (small ps ∧ Q (luD ps.length (togR false ps))) :=
  propext ⟨fun ⟨q, e2, h⟩ => by cases map_fD_inj e2; exact h, fun h => ⟨ps, rfl, h⟩⟩
theorem r_l_lumped (ds M Q E) (h : pur sp_l_lumped ds M Q E) : t_l_lumped (pur sp_lumps_beside) (pur sp_lump_of) (endsOf Q E) (startE [false] 3 ds) M := by
  unfold pur sp_l_lumped at h
  dsimp only at h
  split at h
  · obtain ⟨ps, rfl, hs, h⟩ := h
    simp! [t_l_lumped]
    refine ⟨fun i ρ M' => (∃ r, ρ = [.dat (.lst (ps.map fD)), .dat (luD (ps.take i).length (togR false (ps.take i))), r]) ∧ M' = M, ⟨⟨_, rfl⟩, rfl⟩, ?_, ?_⟩
    · rintro i d hd ρ M' ⟨⟨r0, rfl⟩, rfl⟩
      rw [List.getElem?_map] at hd
      obtain ⟨p, hp, rfl⟩ := Option.map_eq_some_iff.mp hd
      have hi := (List.getElem?_eq_some_iff.mp hp).1
      have e1 : D.tup [.int 1, fD p] = luD 1 p := rfl
      simp! [sp_lump_of, e1, e_lumps_beside]
      refine ⟨hs.at i p hp, ?_⟩
      have e : togR false (ps.take (i + 1)) = togR false (ps.take i) + p := by unfold togR; rw [foldl_take _ _ _ _ _ hp]; rfl
      have e2 : (((ps.take (i + 1)).length : Nat) : Int) = ((ps.take i).length : Int) + 1 := by rw [List.length_take, List.length_take]; omega
      rw [e, e2]
      exact ⟨_, rfl⟩
    · rintro ρ M' ⟨⟨r0, rfl⟩, rfl⟩
      rw [List.length_map, List.take_length]
      simp! [dSeq]
      exact h
  · exact h.elim
theorem cut_map {α : Type} (f : α → D) (xs : List α) (lo hi : Option Int) : cutD (xs.map f) lo hi = ((xs.drop (HT.sIx xs.length 0 lo)).take (HT.sIx xs.length xs.length hi - HT.sIx xs.length 0 lo)).map f := by
  unfold cutD
  rw [List.length_map, List.map_take, List.map_drop]
def sp_l_lists : SpD := fun ds Q _ => match ds with | [.lst xs, .int m] => ∃ ps : List Rat, xs = ps.map fD ∧ 0 ≤ m ∧ ∀ as bs : List Rat, as.length ≤ 4 → bs.length ≤ 4 → (∀ p ∈ as, p ∈ ps) → (∀ p ∈ bs, p ∈ ps) → Q (.tup [.lst (as.map fD), .lst (bs.map fD)]) | _ => False
theorem r_l_lists (ds M Q E) (h : pur sp_l_lists ds M Q E) : t_l_lists (endsOf Q E) (startE [false, false] 3 ds) M := by
  unfold pur sp_l_lists at h
  dsimp only at h
  split at h
  · rename_i xs m
    obtain ⟨ps, rfl, hm, h⟩ := h
    have s5 : Sm 5 := sm_lit (by omega) (by omega)
    simp! [t_l_lists, s5, cut_map]
    have a0 := Int.emod_nonneg m (show (5 : Int) ≠ 0 by decide)
    have a1 := Int.emod_lt_of_pos m (show (0 : Int) < 5 by decide)
    have b0 := Int.emod_nonneg (m / 5) (show (5 : Int) ≠ 0 by decide)
    have b1 := Int.emod_lt_of_pos (m / 5) (show (0 : Int) < 5 by decide)
    obtain ⟨i, hi⟩ := Int.eq_ofNat_of_zero_le a0
    obtain ⟨j, hj⟩ := Int.eq_ofNat_of_zero_le b0
    rw [hi, hj]
    have e1 : HT.sIx ps.length ps.length (some (i : Int)) = min i ps.length := HT.sIx_nat _ _ _
    have e2 : HT.sIx ps.length 0 (some (i : Int)) = min i ps.length := HT.sIx_nat _ _ _
    have e3 : HT.sIx ps.length ps.length (some ((i : Int) + (j : Int))) = min (i + j) ps.length := HT.sIx_nat _ _ (i + j)
    refine h _ _ ?_ ?_ (fun p hp => List.mem_of_mem_drop (List.mem_of_mem_take hp)) (fun p hp => List.mem_of_mem_drop (List.mem_of_mem_take hp))
    · rw [List.length_take, e1]; omega
    · rw [List.length_take, e2, e3]; omega
  · exact h.elim
/-! sums -/
theorem tog_snoc (c : Bool) (ps : List Rat) (p : Rat) : togR c (ps ++ [p]) = joinR c (togR c ps) p := by unfold togR; rw [List.foldl_append]; rfl
theorem sum_from (ps : List Rat) : ∀ q : Rat, ps.foldl (joinR false) q = q + togR false ps := by
  induction ps with
  | nil => intro q; show q = q + 0; rw [Rat.add_zero]
  | cons p ps ih =>
    intro q
    unfold togR
    rw [List.foldl_cons, List.foldl_cons, ih, ih]
    show q + p + _ = q + (0 + p + _)
    rw [Rat.zero_add, Rat.add_assoc]
theorem sum_cons (p : Rat) (ps : List Rat) : togR false (p :: ps) = p + togR false ps := by
  show (p :: ps).foldl (joinR false) 0 = _
  rw [List.foldl_cons, sum_from]
  show 0 + p + _ = _
  rw [Rat.zero_add]
theorem sum_app (ps qs : List Rat) : togR false (ps ++ qs) = togR false ps + togR false qs := by
  show (ps ++ qs).foldl (joinR false) 0 = _
  rw [List.foldl_append, sum_from]; rfl
theorem sum_times (p : Rat) (qs : List Rat) : togR false (qs.map (p * ·)) = p * togR false qs := by
  induction qs with
  | nil => show (0 : Rat) = p * 0; rw [Rat.mul_zero]
  | cons q qs ih => rw [List.map_cons, sum_cons, ih, sum_cons, Rat.mul_add]
theorem sum_plus (p : Rat) (qs : List Rat) : togR false (qs.map (p + ·)) = ((qs.length : Int) : Rat) * p + togR false qs := by
  induction qs with
  | nil => show (0 : Rat) = 0 * p + 0; rw [Rat.zero_mul, Rat.add_zero]
  | cons q qs ih =>
    rw [List.map_cons, sum_cons, ih, sum_cons]
    have e : (((q :: qs).length : Int) : Rat) = ((qs.length : Int) : Rat) + 1 := by
      rw [List.length_cons, show ((qs.length + 1 : Nat) : Int) = (qs.length : Int) + 1 by omega, Rat.intCast_add]; rfl
    rw [e, Rat.add_mul, Rat.one_mul]
    rw [Rat.add_assoc p q, Rat.add_comm p (q + _), Rat.add_assoc (_ * p) p, Rat.add_comm p (q + togR false qs), ← Rat.add_assoc, ← Rat.add_assoc, Rat.add_comm q (_ * p), ← Rat.add_assoc (_ * p)]
def joinsOf (c : Bool) (ps qs : List Rat) : List Rat := ps.flatMap fun p => qs.map fun q => joinR c p q
theorem sum_joins (c : Bool) (ps qs : List Rat) : togR false (joinsOf c ps qs) = if c = true then togR false ps * togR false qs else ((ps.length : Int) : Rat) * togR false qs + ((qs.length : Int) : Rat) * togR false ps := by
  induction ps with
  | nil =>
    cases c
    · show (0 : Rat) = 0 * _ + _ * 0
      rw [Rat.zero_mul, Rat.mul_zero, Rat.add_zero]
    · show (0 : Rat) = 0 * _
      rw [Rat.zero_mul]
  | cons p ps ih =>
    have e : joinsOf c (p :: ps) qs = (qs.map fun q => joinR c p q) ++ joinsOf c ps qs := rfl
    rw [e, sum_app, ih]
    cases c
    · simp only [Bool.false_eq_true, if_false]
      rw [show (fun q => joinR false p q) = (p + ·) from rfl, sum_plus, sum_cons, Rat.mul_add]
      have e : (((p :: ps).length : Int) : Rat) = ((ps.length : Int) : Rat) + 1 := by
        rw [List.length_cons, show ((ps.length + 1 : Nat) : Int) = (ps.length : Int) + 1 by omega, Rat.intCast_add]; rfl
      rw [e, Rat.add_mul, Rat.one_mul]
      generalize ((qs.length : Int) : Rat) * p = A
      generalize togR false qs = S
      generalize ((ps.length : Int) : Rat) * S = B
      generalize ((qs.length : Int) : Rat) * togR false ps = C
      rw [Rat.add_comm A S, Rat.add_comm B S, Rat.add_assoc S A, Rat.add_assoc S B, ← Rat.add_assoc A B, ← Rat.add_assoc B A, Rat.add_comm A B]
    · simp only [if_true]
      rw [show (fun q => joinR true p q) = (p * ·) from rfl, sum_times, sum_cons, Rat.add_mul]
theorem small_of {n : Nat} {ps : List Rat} (h : ∀ p ∈ ps, fits n p) (hl : 1 + n + (n + 1) * ps.length ≤ 8900) (h2 : ps.length ≤ 1000) : small ps := ⟨h2, n, h, hl⟩
theorem fits_pr {n : Nat} {p : Rat} (h : fits n p) : prOk n (p.num, (p.den : Int)) := ⟨den_pos p, h.1, by have := h.2; show ((p.den : Int)).natAbs < _; omega⟩
theorem fD_pr (p : Rat) : fD p = prD (p.num, (p.den : Int)) := rfl
theorem prR_of (p : Rat) : prR (p.num, (p.den : Int)) = p := divInt_self_parts p
def prOf (p : Rat) : Int × Int := (p.num, (p.den : Int))
theorem map_fD (ps : List Rat) : ps.map fD = (ps.map prOf).map prD := by rw [List.map_map]; rfl
theorem map_prR (ps : List Rat) : (ps.map prOf).map prR = ps := by
  rw [List.map_map]
  conv => rhs; rw [← List.map_id ps]
  exact List.map_congr_left fun p _ => prR_of p
theorem ne_lst {n : Nat} {xs : List D} {Q : D → Prop} (h : pl n (.lst xs) = true) (hn : n ≤ 64) : oNe (.lst xs) (.lst xs) Q = Q (.bl false) := by
  have e1 : PyData.eqv (D.lst xs).py (D.lst xs).py = true := (eqv_iff n _ _ h h).mpr rfl
  have s1 := pl_sh h hn
  exact propext ⟨fun ⟨_, _, q⟩ => by rw [e1] at q; exact q, fun q => ⟨s1, s1, by rw [e1]; exact q⟩⟩
theorem eq_lst {n : Nat} {xs : List D} {Q : D → Prop} (h : pl n (.lst xs) = true) (hn : n ≤ 64) : oEq (.lst xs) (.lst xs) Q = Q (.bl true) := by
  have e1 : PyData.eqv (D.lst xs).py (D.lst xs).py = true := (eqv_iff n _ _ h h).mpr rfl
  have s1 := pl_sh h hn
  exact propext ⟨fun ⟨_, _, q⟩ => by rw [e1] at q; exact q, fun q => ⟨s1, s1, by rw [e1]; exact q⟩⟩
theorem pl_fDs (ps : List Rat) : pl 2 (.lst (ps.map fD)) = true := by
  show (ps.map fD).all (pl 1) = true
  rw [List.all_eq_true]
  intro d hd
  obtain ⟨p, _, rfl⟩ := List.mem_map.mp hd
  rfl
theorem exists_map {α : Type} {f : α → D} {P : α → Prop} : ∀ {xs : List D}, (∀ d ∈ xs, ∃ a, d = f a ∧ P a) → ∃ as : List α, xs = as.map f ∧ ∀ a ∈ as, P a
  | [], _ => ⟨[], rfl, fun a h => by cases h⟩
  | x :: xs, h => by
    obtain ⟨a, rfl, ha⟩ := h x List.mem_cons_self
    obtain ⟨as, rfl, hs⟩ := exists_map (xs := xs) fun d hd => h d (List.mem_cons_of_mem _ hd)
    exact ⟨a :: as, rfl, fun b hb => by
      rcases List.mem_cons.mp hb with rfl | hb
      · exact ha
      · exact hs b hb⟩
theorem cross_of {q : Int × Int} {p : Rat} (hq : q.2 ≠ 0) (h : prR q = p) : p.num * q.2 = q.1 * (p.den : Int) := by
  rw [← h]; exact divInt_cross hq
theorem togs_ok {c : Bool} {n : Nat} {ps : List Rat} (h : ∀ p ∈ ps, fits n p) : prOk (1 + (n + 1) * ps.length) (putP c (ps.map prOf)) ∧ prR (putP c (ps.map prOf)) = togR c ps := by
  have := putP_ok (c := c) (n := n) (qs := ps.map prOf) fun q hq => by obtain ⟨p, hp, rfl⟩ := List.mem_map.mp hq; exact fits_pr (h p hp)
  rw [map_prR, List.length_map] at this
  exact this
theorem tog_sc {c : Bool} {ps : List Rat} {M : Mu} {Q : D → Mu → Prop} {E : Str → Mu → Prop} : (if c = true then pur sp_Scale_together else pur sp_Scale_together) [scD c, .lst (ps.map fD)] M Q E = (small ps ∧ Q (fD (togR c ps)) M) := by
  rw [ite_self]
  exact e_Scale_together (Q := fun d => Q d M) (E := fun C => E C M)
theorem tog_sc0 {c : Bool} {M : Mu} {Q : D → Mu → Prop} {E : Str → Mu → Prop} : (if c = true then pur sp_Scale_together else pur sp_Scale_together) [scD c, .lst []] M Q E = Q (fD (empR c)) M := by
  rw [show D.lst [] = .lst (([] : List Rat).map fD) from rfl, tog_sc]
  exact propext ⟨fun h => h.2, fun h => ⟨small_of (n := 1) (fun q hq => nomatch hq) (by decide) (by decide), h⟩⟩
theorem e_l_lump {n k t b : Int} {p : Rat} {Q : D → Prop} {E : Str → Prop} : sp_l_lump [luD n p, .int k, .int t, .int b] Q E = (Sm p.num ∧ Sm p.den ∧ Sm t ∧ Sm b ∧ n = k ∧ p.num * b = t * p.den ∧ Q (.bl true)) :=
  propext ⟨fun ⟨a, q, e, h⟩ => by obtain ⟨rfl, rfl⟩ := luD_inj e; exact h, fun h => ⟨n, p, rfl, h⟩⟩
theorem e_l_lists {ps : List Rat} {m : Int} {Q : D → Prop} {E : Str → Prop} (hm : 0 ≤ m) : sp_l_lists [.lst (ps.map fD), .int m] Q E = (∀ as bs : List Rat, as.length ≤ 4 → bs.length ≤ 4 → (∀ p ∈ as, p ∈ ps) → (∀ p ∈ bs, p ∈ ps) → Q (.tup [.lst (as.map fD), .lst (bs.map fD)])) :=
  propext ⟨fun ⟨q, e, _, h⟩ => by cases map_fD_inj e; exact h, fun h => ⟨ps, rfl, hm, h⟩⟩
theorem lc_of {α : Type} {G : DTG} {U : DTT} {T : DTE} {ws : List Nat} {ρ : List Ent} {M : Mu} {Q : List D → Mu → Prop} {g f : α → D} {as : List α} (hl : as.length ≤ 1000000) (h : ∀ a ∈ as, ∀ (K : D → Mu → Prop) (N : Mu → Prop), K (f a) M → G (g a) (wipeE ρ ws) fun ρ2 => U ρ2 M (fun b M2 => if b = true then T ρ2 M2 K (fun _ _ => False) else N M2) (fun _ _ => False))
    (hq : Q (as.map f) M) : dLcI G U T ws (as.map g) ρ M Q := by
  refine lc_all (fun i d => ∃ x, as[i]? = some x ∧ d = f x) (by rw [List.length_map]; exact hl) (fun i x hx K N hk => ?_) fun acc h1 h2 => ?_
  · rw [List.getElem?_map] at hx
    obtain ⟨a, ha, rfl⟩ := Option.map_eq_some_iff.mp hx
    exact h a (List.mem_of_getElem? ha) K N (hk _ ⟨a, ha, rfl⟩)
  · have e : acc = as.map f := by
      refine List.ext_getElem? fun i => ?_
      rw [List.length_map] at h1
      rw [List.getElem?_map]
      cases z : acc[i]? with
      | none =>
        have := List.getElem?_eq_none_iff.mp z
        rw [List.getElem?_eq_none (by omega)]; rfl
      | some d =>
        obtain ⟨x, e1, e2⟩ := h2 i d z
        rw [e1, e2]; rfl
    rw [e]; exact hq
def joinedR (c : Bool) (m n : Nat) (p q : Rat) : Rat := if c = true then p * q else ((m : Int) : Rat) * q + ((n : Int) : Rat) * p
theorem joined_sc {c : Bool} {s : D} {m n : Nat} {p q : Rat} (k : Nat) (hm : m < 2 ^ k) (hn : n < 2 ^ k) (hp : fits k p) (hq : fits k q) (hk : 4 * k + 10 ≤ 8900) {M : Mu} {Q : D → Mu → Prop} {E : Str → Mu → Prop} (h : Q (luD (m * n) (joinedR c m n p q)) M) : (if c = true then pur sp_Chance_lumps_joined_k05 else pur sp_Scale_lumps_joined_k05) [s, luD m p, luD n q] M Q E := by
  cases c
  · exact ⟨m, p, n, q, k, rfl, rfl, hm, hn, hp, hq, hk, h⟩
  · exact ⟨m, p, n, q, k, rfl, rfl, hm, hn, hp, hq, hk, h⟩
def pairsP (c : Bool) (as bs : List Rat) : List (Int × Int) := as.flatMap fun p => bs.map fun q => putP c [prOf p, prOf q]
theorem pair_ok {c : Bool} {p q : Rat} (hp : fits 41 p) (hq : fits 41 q) : prOk 85 (putP c [prOf p, prOf q]) ∧ prR (putP c [prOf p, prOf q]) = joinR c p q := by
  have hf : ∀ x ∈ [p, q], fits 41 x := fun x hx => by
    simp only [List.mem_cons, List.not_mem_nil, or_false] at hx
    rcases hx with rfl | rfl
    · exact hp
    · exact hq
  obtain ⟨z1, z2⟩ := togs_ok (c := c) hf
  refine ⟨z1, z2.trans ?_⟩
  cases c
  · show 0 + p + q = p + q
    rw [Rat.zero_add]
  · show 1 * p * q = p * q
    rw [Rat.one_mul]
theorem pairs_ok {c : Bool} {as bs : List Rat} (ha : ∀ p ∈ as, fits 41 p) (hb : ∀ p ∈ bs, fits 41 p) : (∀ x ∈ pairsP c as bs, prOk 85 x) ∧ (pairsP c as bs).map prR = joinsOf c as bs := by
  refine ⟨fun x hx => ?_, ?_⟩
  · obtain ⟨p, hp, hx⟩ := List.mem_flatMap.mp hx
    obtain ⟨q, hq, rfl⟩ := List.mem_map.mp hx
    exact (pair_ok (ha p hp) (hb q hq)).1
  · induction as with
    | nil => rfl
    | cons a as ih =>
      have e1 : pairsP c (a :: as) bs = (bs.map fun q => putP c [prOf a, prOf q]) ++ pairsP c as bs := rfl
      have e2 : joinsOf c (a :: as) bs = (bs.map fun q => joinR c a q) ++ joinsOf c as bs := rfl
      rw [e1, e2, List.map_append, ih fun p hp => ha p (List.mem_cons_of_mem _ hp), List.map_map]
      congr 1
      exact List.map_congr_left fun q hq => (pair_ok (ha a List.mem_cons_self) (hb q hq)).2
theorem pairs_len (c : Bool) (as bs : List Rat) : (pairsP c as bs).length = as.length * bs.length := by
  induction as with
  | nil => simp [pairsP]
  | cons a as ih =>
    have e1 : pairsP c (a :: as) bs = (bs.map fun q => putP c [prOf a, prOf q]) ++ pairsP c as bs := rfl
    rw [e1, List.length_append, List.length_map, ih, List.length_cons, Nat.succ_mul]; omega
theorem r_law_k05 (ds M Q E) (h : spLaw ds M Q E) : t_law_k05 (pur sp_l_at) (pur sp_scale_of) (pur sp_l_weight_k05) (pur sp_l_put) (pur sp_l_fraction) (pur sp_l_lump) (pur sp_l_lumped) (pur sp_l_lists) (pur sp_l_mix) (pur sp_Scale_together) (pur sp_Chance_empty) (pur sp_Scale_empty) (pur sp_Chance_lumps_joined_k05) (pur sp_Scale_lumps_joined_k05) (endsOf Q E) (startE [false] 16 ds) M := by
  obtain ⟨ns, rfl, hl, h⟩ := h
  have s2 : Sm 2 := sm_lit (by omega) (by omega)
  simp! [t_law_k05, e_l_at, s2]
  refine ⟨fun ρ M1 => ∃ c, ρ = [.dat (.lst (ns.map .int)), .dat (.bl c), .dat (scD c), .un, .un, .un, .un, .un, .un, .un, .un, .un, .un, .un, .un, .un] ∧ M1 = M, ?_, ?_⟩
  · generalize ns.getD 0 0 = c
    have h0 := Int.emod_nonneg c (show (2 : Int) ≠ 0 by decide)
    have h1 := Int.emod_lt_of_pos c (show (0 : Int) < 2 by decide)
    have hc : c % 2 = 0 ∨ c % 2 = 1 := by omega
    rcases hc with hc | hc
    · have es : ∀ Q E, sp_scale_of [.str "cost"] Q E = Q (scD false) := fun Q E => e_scale_of (c := false)
      simp! [hc, es]
      exact ⟨false, rfl⟩
    · have es : ∀ Q E, sp_scale_of [.str "chance"] Q E = Q (scD true) := fun Q E => e_scale_of (c := true)
      simp! [hc, es]
      exact ⟨true, rfl⟩
  · rintro ρ M1 ⟨c, rfl, rfl⟩
    simp! [cut_map, List.length_map]
    refine lc_all (fun _ d => ∃ p, d = fD p ∧ fits 41 p) ?_ (fun i x hx K N hK => ?_) fun acc hal hac => ?_
    · rw [enumD, List.length_map, List.length_zipIdx, List.length_map, List.length_take, List.length_drop]; omega
    · obtain ⟨y, hy, rfl⟩ := enumD_get hx
      have hi := (List.getElem?_eq_some_iff.mp hy).1
      rw [List.getElem?_map] at hy
      obtain ⟨z, _, rfl⟩ := Option.map_eq_some_iff.mp hy
      rw [List.length_map, List.length_take, List.length_drop] at hi
      have k0 : kOk i := ⟨by omega, by omega⟩
      simp! [sp_l_weight_k05, k0]
      exact fun p hp _ => hK _ ⟨p, rfl, hp⟩
    · obtain ⟨ps, rfl, hf⟩ := exists_map (f := fD) (P := fits 41) (xs := acc) fun d hd => by
        obtain ⟨i, hi⟩ := List.mem_iff_getElem?.mp hd
        exact hac i d hi
      have hn : ps.length ≤ 60 := by
        have e2 : HT.sIx ns.length ns.length (some 61) = min 61 ns.length := HT.sIx_nat _ _ _
        have e1 : HT.sIx ns.length 0 (some 1) = min 1 ns.length := HT.sIx_nat _ _ _
        rw [enumD, List.length_map, List.length_map, List.length_zipIdx, List.length_map, List.length_take, List.length_drop, e1, e2] at hal
        omega
      clear hal hac
      have hsm : small ps := small_of hf (by omega) (by omega)
      obtain ⟨w1, w2⟩ := togs_ok (c := c) hf
      obtain ⟨v1, v2⟩ := togs_ok (c := false) hf
      have f1 := fits_tog (c := c) hf
      have f2 := fits_tog (c := false) hf
      have epp : ∀ (c : Bool) (Q : D → Prop) E, sp_l_put [.lst (ps.map fD), .bl c] Q E = Q (prD (putP c (ps.map prOf))) := fun c Q E => by
        rw [map_fD]
        exact e_l_put 41 (by rw [List.length_map]; omega) (fun q hq => by obtain ⟨p, hp, rfl⟩ := List.mem_map.mp hq; exact fits_pr (hf p hp)) (by rw [List.length_map]; omega)
      have w3 := cross_of (by have := w1.1; omega) w2
      have v3 := cross_of (by have := v1.1; omega) v2
      have hem : small [] := small_of (n := 1) (fun q hq => nomatch hq) (by decide) (by decide)
      have enil : D.lst [] = .lst (([] : List Rat).map fD) := rfl
      have etn : togR c [] = empR c := rfl
      have b1 : 1 + (41 + 1) * ps.length ≤ 3000 := by omega
      have w4 := w1.s1 (by omega)
      have w5 := w1.s2 (by omega)
      have w6 := f1.num (by omega)
      have w7 := f1.den (by omega)
      have v4 := v1.s1 (by omega)
      have v5 := v1.s2 (by omega)
      have v6 := f2.num (by omega)
      have v7 := f2.den (by omega)
      have k9 : kOk 9 := ⟨by decide, by decide⟩
      have mm := mix_lo (ns.getD 0 0) 9
      have nl : ∀ Q, oNe (.lst (ps.map fD)) (.lst (ps.map fD)) Q = Q (.bl false) := fun Q => ne_lst (pl_fDs ps) (by decide)
      simp! [epp, prD, drf_sc, meth_sc, tog_sc, tog_sc0, empty_sc, hsm, e_l_fraction, w3, w4, w5, w6, w7, nl, ne_fD, drf_fD, e_l_lumped, e_l_lump, v3, v4, v5, v6, v7, List.length_map, e_l_at, sp_l_mix, k9]
      rw [← List.map_reverse, e_l_lists mm]
      intro as bs la lb ha hb
      have ha : ∀ p ∈ as, fits 41 p := fun p hp => hf p (List.mem_reverse.mp (ha p hp))
      have hb : ∀ p ∈ bs, fits 41 p := fun p hp => hf p (List.mem_reverse.mp (hb p hp))
      simp! [dSeq]
      refine ⟨fun i ρ M2 => (∃ r3 r4 r5 r6 r7 r11 r12 r13 r14 r15, ρ = [.dat (.lst (ns.map .int)), .dat (.bl c), .dat (scD c), r3, r4, r5, r6, r7, .dat (.lst (as.map fD)), .dat (.lst (bs.map fD)), .dat (.lst ((pairsP c (as.take i) bs).map prD)), r11, r12, r13, r14, r15]) ∧ M2 = M1, ⟨⟨_, _, _, _, _, _, _, _, _, _, rfl⟩, rfl⟩, ?_, ?_⟩
      · rintro i d hd ρ M2 ⟨⟨r3, r4, r5, r6, r7, r11, r12, r13, r14, r15, rfl⟩, rfl⟩
        rw [List.getElem?_map] at hd
        obtain ⟨p, hp, rfl⟩ := Option.map_eq_some_iff.mp hd
        have hpp := List.mem_of_getElem? hp
        have hi := (List.getElem?_eq_some_iff.mp hp).1
        simp! [dSeq]
        refine lc_of (f := fun q => prD (putP c [prOf p, prOf q])) (by omega) (fun q hq K N hK => ?_) ?_
        · simp! [dSeq]
          have e := e_l_put (qs := [prOf p, prOf q]) (c := c) (Q := fun d => K d M2) (E := fun _ => False) 41 (by simp) (fun x hx => by
            simp only [List.mem_cons, List.not_mem_nil, or_false] at hx
            rcases hx with rfl | rfl
            · exact fits_pr (ha p hpp)
            · exact fits_pr (hb q hq)) (show 2 + 41 + (41 + 1) * 2 ≤ 8900 by decide)
          exact e.symm ▸ hK
        · simp! [dSeq]
          have e : pairsP c (as.take (i + 1)) bs = pairsP c (as.take i) bs ++ bs.map fun q => putP c [prOf p, prOf q] := by
            unfold pairsP
            rw [List.take_add_one, hp, List.flatMap_append]
            simp
          have e3 : (pairsP c (as.take (i + 1)) bs).map prD = (pairsP c (as.take i) bs).map prD ++ bs.map fun q => prD (putP c [prOf p, prOf q]) := by rw [e, List.map_append, List.map_map]; rfl
          have pl := pairs_len c (as.take i) bs
          have : (as.take i).length * bs.length ≤ 4 * 4 := Nat.mul_le_mul (by rw [List.length_take]; omega) lb
          rw [e3]
          exact ⟨by rw [List.length_map, List.length_map, pl]; omega, _, _, _, _, _, _, _, _, _, _, rfl⟩
      · rintro ρ M2 ⟨⟨r3, r4, r5, r6, r7, r11, r12, r13, r14, r15, rfl⟩, rfl⟩
        rw [List.length_map, List.take_length]
        obtain ⟨p1, p2⟩ := pairs_ok (c := c) ha hb
        have pl := pairs_len c as bs
        have pl2 : as.length * bs.length ≤ 4 * 4 := Nat.mul_le_mul la lb
        obtain ⟨u1, u2⟩ := putP_ok (c := false) p1
        rw [p2, sum_joins] at u2
        have ep : ∀ (Q : D → Prop) E, sp_l_put [.lst ((pairsP c as bs).map prD), .bl false] Q E = Q (prD (putP false (pairsP c as bs))) := fun Q E => e_l_put 85 (by omega) p1 (by omega)
        have sa : small as := small_of ha (by omega) (by omega)
        have sb : small bs := small_of hb (by omega) (by omega)
        have la' : Sm (as.length : Int) := sm_lit (by omega) (by omega)
        have lb' : Sm (bs.length : Int) := sm_lit (by omega) (by omega)
        simp! [ep, prD, drf_sc, meth_sc, e_l_lumped, sa, sb]
        have fa := (fits_tog (c := false) ha).mono (show _ ≤ 169 by omega)
        have fb := (fits_tog (c := false) hb).mono (show _ ≤ 169 by omega)
        refine joined_sc 169 (by omega) (by omega) fa fb (by omega) ?_
        simp! [List.length_map, la', lb', e_l_lump]
        have ej : prR (putP false (pairsP c as bs)) = joinedR c as.length bs.length (togR false as) (togR false bs) := u2
        have fj : fits _ (prR (putP false (pairsP c as bs))) := divInt_fits (by have := u1.1; omega) u1.2.1 u1.2.2
        rw [ej] at fj
        exact ⟨fj.num (by omega), fj.den (by omega), u1.s1 (by omega), u1.s2 (by omega), cross_of (by have := u1.1; omega) ej, h⟩

end Z

namespace Z
namespace K05
open PySem PySem.Spec PyProof.Rows L2
def top (i : Nat) : Stmt := PySem.Challenge.pw_kbestwood_k05_many_together.main.body.getD i (.Pass ⟨0, 0, 0, 0⟩)
abbrev s_l_at : Stmt := top 18
theorem sc_l_at : FnScope ["_law_script", "_law_k"] ["_law_script", "_law_k"] (defScope s_l_at) := ⟨rfl, rfl, rfl, by decide +kernel, rfl, by decide +kernel, by decide +kernel⟩
theorem ok_l_at {B : Bx} {base : Heap} {j : Nat} {f : Addr} {fd : FuncData} {sp : SpM} (n_len : B.mg "len" = none) (F : FunD B.K "_law_at" "_law_at" (defArgs s_l_at) (defBody s_l_at) (defScope s_l_at) [] [] f fd)
    (spec : ∀ ds M Q E, sp ds M Q E → t_l_at (endsOf Q E) (startE [false, false] 2 ds) M) : FnB B base (j + 1) f fd ["_law_script", "_law_k"] [false, false] sp :=
  fnok_of F sc_l_at (fun cdv A outer s H E hr tk hp =>
 (dss_cons (ds_if (dt_cmp op_lt rf_lt (dr_var 1) (DE.r (de_callB call_lenA rf_len n_len (dm_r (dr_var 0) dm_nil))) (nomark _)) (dss_one (ds_ret (de_ix hr (dr_var 0) (dr_var 1)))) dss_nil)
 (dss_one (ds_ret de_int)))) spec

abbrev s_scale_of : Stmt := top 14
theorem sc_scale_of : FnScope ["word"] ["word"] (defScope s_scale_of) := ⟨rfl, rfl, rfl, by decide +kernel, rfl, by decide +kernel, by decide +kernel⟩
theorem ok_scale_of {B : Bx} {base : Heap} {j : Nat} {f : Addr} {fd : FuncData} {sp : SpM} (m0_Cost : Mk0F B "Cost") (m0_Chance : Mk0F B "Chance") (xc_NoScale : XcF B "NoScale") (F : FunD B.K "scale_of" "scale_of" (defArgs s_scale_of) (defBody s_scale_of) (defScope s_scale_of) [] [] f fd)
    (spec : ∀ ds M Q E, sp ds M Q E → t_scale_of (endsOf Q E) (startE [false] 1 ds) M) : FnB B base (j + 1) f fd ["word"] [false] sp :=
  fnok_of F sc_scale_of (fun cdv A outer s H E hr tk hp =>
 (dss_cons (ds_if (dt_cmp (op_eqA hr) rf_eq (dr_var 0) (DE.r de_str) (nomark _)) (dss_one (ds_ret (de_make0 m0_Cost))) dss_nil)
 (dss_cons (ds_if (dt_cmp (op_eqA hr) rf_eq (dr_var 0) (DE.r de_str) (nomark _)) (dss_one (ds_ret (de_make0 m0_Chance))) dss_nil)
 (dss_one (ds_raise tk xc_NoScale))))) spec

abbrev s_l_mix : Stmt := top 19
theorem sc_l_mix : FnScope ["_law_cell", "_law_k", "_law_factor", "_law_number"] ["_law_cell", "_law_k"] (defScope s_l_mix) := ⟨rfl, rfl, rfl, by decide +kernel, rfl, by decide +kernel, by decide +kernel⟩
theorem ok_l_mix {B : Bx} {base : Heap} {j : Nat} {f : Addr} {fd : FuncData} {sp : SpM} (F : FunD B.K "_law_mix" "_law_mix" (defArgs s_l_mix) (defBody s_l_mix) (defScope s_l_mix) [] [] f fd)
    (spec : ∀ ds M Q E, sp ds M Q E → t_l_mix (endsOf Q E) (startE [false, false] 4 ds) M) : FnB B base (j + 1) f fd ["_law_cell", "_law_k"] [false, false] sp :=
  fnok_of F sc_l_mix (fun cdv A outer s H E hr tk hp =>
 (dss_cons (ds_set (i := 2) sc_l_mix.nd (de_ix hr (DE.r (DN.fz (dn_lst (dm_e de_int (dm_e de_int (dm_e de_int (dm_e de_int (dm_e de_int (dm_e de_int (dm_e de_int dm_nil)))))))))) (DE.r (de_mod (dr_var 1) (DE.r de_int)))))
 (dss_cons (ds_set (i := 3) sc_l_mix.nd (de_mod (DE.r (de_mulA (DE.r (de_add (DE.r (de_add (DE.r (de_mod (dr_var 0) (DE.r de_int))) (DE.r (de_mulA (DE.r (de_mulA (DE.r de_int) (dr_var 1))) (dr_var 1))))) (DE.r de_int))) (dr_var 2))) (DE.r de_int)))
 (dss_one (ds_ret (de_mod (DE.r (de_mulA (dr_var 3) (dr_var 3))) (DE.r de_int))))))) spec

abbrev s_l_lowest : Stmt := top 20
theorem sc_l_lowest : FnScope ["_law_top", "_law_bottom", "_law_one", "_law_other", "_law_kept"] ["_law_top", "_law_bottom"] (defScope s_l_lowest) := ⟨rfl, rfl, rfl, by decide +kernel, rfl, by decide +kernel, by decide +kernel⟩
theorem ok_l_lowest {B : Bx} {base : Heap} {j : Nat} {f : Addr} {fd : FuncData} {sp : SpM} (n_abs : B.mg "abs" = none) (F : FunD B.K "_law_lowest" "_law_lowest" (defArgs s_l_lowest) (defBody s_l_lowest) (defScope s_l_lowest) [] [] f fd)
    (spec : ∀ ds M Q E, sp ds M Q E → t_l_lowest (endsOf Q E) (startE [false, false] 5 ds) M) : FnB B base (j + 1) f fd ["_law_top", "_law_bottom"] [false, false] sp :=
  fnok_of F sc_l_lowest (fun cdv A outer s H E hr tk hp =>
 (dss_cons (ds_set (i := 2) sc_l_lowest.nd (de_callB call_abs rf_abs n_abs (dm_r (dr_var 0) dm_nil)))
 (dss_cons (ds_set (i := 3) sc_l_lowest.nd (de_var 1))
 (dss_cons (ds_while hp (dt_cmp op_gt rf_gt (dr_var 3) (DE.r de_int) (nomark _)) (dss_cons (ds_set (i := 4) sc_l_lowest.nd (de_mod (dr_var 2) (dr_var 3)))
 (dss_cons (ds_set (i := 2) sc_l_lowest.nd (de_var 3))
 (dss_one (ds_set (i := 3) sc_l_lowest.nd (de_var 4))))))
 (dss_one (ds_ret (de_tup (dm_e (de_fdiv (dr_var 0) (dr_var 2)) (dm_e (de_fdiv (dr_var 1) (dr_var 2)) dm_nil))))))))) spec

abbrev s_l_weight_k05 : Stmt := top 23
theorem sc_l_weight_k05 : FnScope ["_law_cell", "_law_k", "_law_chance", "_law_m", "_law_top", "_law_bottom"] ["_law_cell", "_law_k", "_law_chance"] (defScope s_l_weight_k05) := ⟨rfl, rfl, rfl, by decide +kernel, rfl, by decide +kernel, by decide +kernel⟩
theorem ok_l_weight_k05 {B : Bx} {base : Heap} {j : Nat} {f : Addr} {fd : FuncData} {sp : SpM} {p_l_mix : SpM} {p_l_lowest : SpM} (n_int : B.mg "int" = none) (h_l_mix : Fn B base j "_law_mix" [false, false] p_l_mix) (h_l_lowest : Fn B base j "_law_lowest" [false, false] p_l_lowest) (F : FunD B.K "_law_weight" "_law_weight" (defArgs s_l_weight_k05) (defBody s_l_weight_k05) (defScope s_l_weight_k05) [] [] f fd)
    (spec : ∀ ds M Q E, sp ds M Q E → t_l_weight_k05 p_l_mix p_l_lowest (endsOf Q E) (startE [false, false, false] 6 ds) M) : FnB B base (j + 1) f fd ["_law_cell", "_law_k", "_law_chance"] [false, false, false] sp :=
  fnok_of F sc_l_weight_k05 (fun cdv A outer s H E hr tk hp =>
 (dss_cons (ds_set (i := 3) sc_l_weight_k05.nd (de_call h_l_mix hr tk (Nat.le_refl _) (dm_e (de_var 0) (dm_e (de_var 1) dm_nil))))
 (dss_cons (ds_set (i := 4) sc_l_weight_k05.nd (de_mod (dr_var 0) (DE.r (de_pow (DE.r de_int) (DE.r de_int)))))
 (dss_cons (ds_if (dt_cmp (op_eqA hr) rf_eq (DE.r (de_mod (dr_var 3) (DE.r de_int))) (DE.r de_int) (nomark _)) (dss_one (ds_set (i := 4) sc_l_weight_k05.nd (de_mod (DE.r (de_fdiv (dr_var 3) (DE.r de_int))) (DE.r de_int)))) dss_nil)
 (dss_cons (ds_set (i := 5) sc_l_weight_k05.nd (de_ix hr (DE.r (DN.fz (dn_lst (dm_e de_int (dm_e de_int (dm_e (de_add (DE.r de_int) (DE.r (de_mod (DE.r (de_fdiv (dr_var 3) (DE.r de_int))) (DE.r de_int)))) (dm_e (de_add (DE.r de_int) (DE.r (de_mod (DE.r (de_fdiv (dr_var 3) (DE.r de_int))) (DE.r (de_pow (DE.r de_int) (DE.r de_int)))))) dm_nil))))))) (DE.r (de_mod (DE.r (de_fdiv (dr_var 3) (DE.r de_int))) (DE.r de_int)))))
 (dss_cons (ds_if (dt_tru (dr_var 2)) (dss_one (ds_set (i := 4) sc_l_weight_k05.nd (de_add (dr_var 4) (DE.r (de_callTy call_intA rf_int1 n_int (dm_r (DE.r (de_cmp (op_eqA hr) rf_eq (dr_var 4) (DE.r de_int) (nomark _))) dm_nil)))))) (dss_one (ds_if (dt_cmp (op_eqA hr) rf_eq (DE.r (de_mod (DE.r (de_fdiv (dr_var 3) (DE.r de_int))) (DE.r de_int))) (DE.r de_int) (nomark _)) (dss_one (ds_set (i := 4) sc_l_weight_k05.nd (de_neg (dr_var 4)))) dss_nil)))
 (dss_one (ds_ret (de_call h_l_lowest hr tk (Nat.le_refl _) (dm_e (de_var 4) (dm_e (de_var 5) dm_nil))))))))))) spec

abbrev s_l_put : Stmt := top 24
theorem sc_l_put : FnScope ["_law_weights", "_law_chance", "_law_top", "_law_bottom", "_law_one"] ["_law_weights", "_law_chance"] (defScope s_l_put) := ⟨rfl, rfl, rfl, by decide +kernel, rfl, by decide +kernel, by decide +kernel⟩
theorem ok_l_put {B : Bx} {base : Heap} {j : Nat} {f : Addr} {fd : FuncData} {sp : SpM} (n_int : B.mg "int" = none) (F : FunD B.K "_law_put" "_law_put" (defArgs s_l_put) (defBody s_l_put) (defScope s_l_put) [] [] f fd)
    (spec : ∀ ds M Q E, sp ds M Q E → t_l_put (endsOf Q E) (startE [false, false] 5 ds) M) : FnB B base (j + 1) f fd ["_law_weights", "_law_chance"] [false, false] sp :=
  fnok_of F sc_l_put (fun cdv A outer s H E hr tk hp =>
 (dss_cons (ds_par (i := 2) (j := 3) rfl sc_l_put.nd (dm_e (de_callTy call_intA rf_int1 n_int (dm_r (dr_var 1) dm_nil)) (dm_e de_int dm_nil)))
 (dss_cons (ds_for hp rfl (di_any (de_var 0)) (dg_name (i := 4) sc_l_put.nd) (dss_cons (ds_if (dt_tru (dr_var 1)) (dss_one (ds_set (i := 2) sc_l_put.nd (de_mulA (dr_var 2) (DE.r (de_ix hr (dr_var 4) (DE.r de_int)))))) (dss_one (ds_set (i := 2) sc_l_put.nd (de_add (DE.r (de_mulA (dr_var 2) (DE.r (de_ix hr (dr_var 4) (DE.r de_int))))) (DE.r (de_mulA (DE.r (de_ix hr (dr_var 4) (DE.r de_int))) (dr_var 3)))))))
 (dss_one (ds_set (i := 3) sc_l_put.nd (de_mulA (dr_var 3) (DE.r (de_ix hr (dr_var 4) (DE.r de_int))))))))
 (dss_one (ds_ret (de_tup (dm_e (de_var 2) (dm_e (de_var 3) dm_nil)))))))) spec

abbrev s_l_whole : Stmt := top 21
theorem sc_l_whole : FnScope ["_law_found"] ["_law_found"] (defScope s_l_whole) := ⟨rfl, rfl, rfl, by decide +kernel, rfl, by decide +kernel, by decide +kernel⟩
theorem ok_l_whole {B : Bx} {base : Heap} {j : Nat} {f : Addr} {fd : FuncData} {sp : SpM} (n_isinstance : B.mg "isinstance" = none) (n_int : B.mg "int" = none) (n_bool : B.mg "bool" = none) (F : FunD B.K "_law_whole" "_law_whole" (defArgs s_l_whole) (defBody s_l_whole) (defScope s_l_whole) [] [] f fd)
    (spec : ∀ ds M Q E, sp ds M Q E → t_l_whole (endsOf Q E) (startE [false] 1 ds) M) : FnB B base (j + 1) f fd ["_law_found"] [false] sp :=
  fnok_of F sc_l_whole (fun cdv A outer s H E hr tk hp =>
 (dss_one (ds_ret (de_and (de_callB call_isi (rf_isi isi_int) n_isinstance (dm_r (dr_var 0) (dm_e (de_gty n_int) dm_nil))) (de_one (de_not (de_callB call_isi (rf_isi isi_bool) n_isinstance (dm_r (dr_var 0) (dm_e (de_gty n_bool) dm_nil))))))))) spec

abbrev s_l_fraction : Stmt := top 22
theorem sc_l_fraction : FnScope ["_law_found", "_law_top", "_law_bottom"] ["_law_found", "_law_top", "_law_bottom"] (defScope s_l_fraction) := ⟨rfl, rfl, rfl, by decide +kernel, rfl, by decide +kernel, by decide +kernel⟩
theorem ok_l_fraction {B : Bx} {base : Heap} {j : Nat} {f : Addr} {fd : FuncData} {sp : SpM} {p_l_whole : SpM} {p_l_lowest : SpM} (n_isinstance : B.mg "isinstance" = none) (n_tuple : B.mg "tuple" = none) (n_len : B.mg "len" = none) (h_l_whole : Fn B base j "_law_whole" [false] p_l_whole) (h_l_lowest : Fn B base j "_law_lowest" [false, false] p_l_lowest) (F : FunD B.K "_law_fraction" "_law_fraction" (defArgs s_l_fraction) (defBody s_l_fraction) (defScope s_l_fraction) [] [] f fd)
    (spec : ∀ ds M Q E, sp ds M Q E → t_l_fraction p_l_whole p_l_lowest (endsOf Q E) (startE [false, false, false] 3 ds) M) : FnB B base (j + 1) f fd ["_law_found", "_law_top", "_law_bottom"] [false, false, false] sp :=
  fnok_of F sc_l_fraction (fun cdv A outer s H E hr tk hp =>
 (dss_cons (ds_if (DW.t (dw_or (dt_not (dt_tru (DE.r (de_callB call_isi (rf_isi isi_tuple) n_isinstance (dm_r (dr_var 0) (dm_e (de_gty n_tuple) dm_nil)))))) (dw_or (dt_cmp (op_neA hr) rf_ne (DE.r (de_callB call_lenA rf_len n_len (dm_r (dr_var 0) dm_nil))) (DE.r de_int) (nomark _)) (dw_or (dt_not (dt_tru (DE.r (de_call h_l_whole hr tk (Nat.le_refl _) (dm_e (de_ix hr (dr_var 0) (DE.r de_int)) dm_nil))))) (dw_or1 (dt_not (dt_tru (DE.r (de_call h_l_whole hr tk (Nat.le_refl _) (dm_e (de_ix hr (dr_var 0) (DE.r de_int)) dm_nil)))))))))) (dss_one (ds_ret de_bl)) dss_nil)
 (dss_one (ds_ret (de_and (de_cmp op_gt rf_gt (DE.r (de_ix hr (dr_var 0) (DE.r de_int))) (DE.r de_int) (nomark _)) (de_and (de_cmp (op_eqA hr) rf_eq (DE.r (de_call h_l_lowest hr tk (Nat.le_refl _) (dm_e (de_ix hr (dr_var 0) (DE.r de_int)) (dm_e (de_ix hr (dr_var 0) (DE.r de_int)) dm_nil)))) (dr_var 0) (nomark _)) (de_one (de_cmp (op_eqA hr) rf_eq (DE.r (de_mulA (DE.r (de_ix hr (dr_var 0) (DE.r de_int))) (dr_var 2))) (DE.r (de_mulA (dr_var 1) (DE.r (de_ix hr (dr_var 0) (DE.r de_int))))) (nomark _))))))))) spec

abbrev s_l_lump : Stmt := top 25
theorem sc_l_lump : FnScope ["_law_found", "_law_count", "_law_top", "_law_bottom"] ["_law_found", "_law_count", "_law_top", "_law_bottom"] (defScope s_l_lump) := ⟨rfl, rfl, rfl, by decide +kernel, rfl, by decide +kernel, by decide +kernel⟩
theorem ok_l_lump {B : Bx} {base : Heap} {j : Nat} {f : Addr} {fd : FuncData} {sp : SpM} {p_l_whole : SpM} {p_l_fraction : SpM} (n_isinstance : B.mg "isinstance" = none) (n_tuple : B.mg "tuple" = none) (n_len : B.mg "len" = none) (h_l_whole : Fn B base j "_law_whole" [false] p_l_whole) (h_l_fraction : Fn B base j "_law_fraction" [false, false, false] p_l_fraction) (F : FunD B.K "_law_lump" "_law_lump" (defArgs s_l_lump) (defBody s_l_lump) (defScope s_l_lump) [] [] f fd)
    (spec : ∀ ds M Q E, sp ds M Q E → t_l_lump p_l_whole p_l_fraction (endsOf Q E) (startE [false, false, false, false] 4 ds) M) : FnB B base (j + 1) f fd ["_law_found", "_law_count", "_law_top", "_law_bottom"] [false, false, false, false] sp :=
  fnok_of F sc_l_lump (fun cdv A outer s H E hr tk hp =>
 (dss_cons (ds_if (DW.t (dw_or (dt_not (dt_tru (DE.r (de_callB call_isi (rf_isi isi_tuple) n_isinstance (dm_r (dr_var 0) (dm_e (de_gty n_tuple) dm_nil)))))) (dw_or (dt_cmp (op_neA hr) rf_ne (DE.r (de_callB call_lenA rf_len n_len (dm_r (dr_var 0) dm_nil))) (DE.r de_int) (nomark _)) (dw_or (dt_not (dt_tru (DE.r (de_call h_l_whole hr tk (Nat.le_refl _) (dm_e (de_ix hr (dr_var 0) (DE.r de_int)) dm_nil))))) (dw_or1 (dt_cmp (op_neA hr) rf_ne (DE.r (de_ix hr (dr_var 0) (DE.r de_int))) (dr_var 1) (nomark _))))))) (dss_one (ds_ret de_bl)) dss_nil)
 (dss_one (ds_ret (de_call h_l_fraction hr tk (Nat.le_refl _) (dm_e (de_ix hr (dr_var 0) (DE.r de_int)) (dm_e (de_var 2) (dm_e (de_var 3) dm_nil)))))))) spec

abbrev s_common_divisor : Stmt := top 5
theorem sc_common_divisor : FnScope ["one", "other", "rest"] ["one", "other"] (defScope s_common_divisor) := ⟨rfl, rfl, rfl, by decide +kernel, rfl, by decide +kernel, by decide +kernel⟩
theorem ok_common_divisor {B : Bx} {base : Heap} {j : Nat} {f : Addr} {fd : FuncData} {sp : SpM} (n_abs : B.mg "abs" = none) (F : FunD B.K "common_divisor" "common_divisor" (defArgs s_common_divisor) (defBody s_common_divisor) (defScope s_common_divisor) [] [] f fd)
    (spec : ∀ ds M Q E, sp ds M Q E → t_common_divisor (endsOf Q E) (startE [false, false] 3 ds) M) : FnB B base (j + 1) f fd ["one", "other"] [false, false] sp :=
  fnok_of F sc_common_divisor (fun cdv A outer s H E hr tk hp =>
 (dss_cons (ds_set (i := 0) sc_common_divisor.nd (de_callB call_abs rf_abs n_abs (dm_r (dr_var 0) dm_nil)))
 (dss_cons (ds_set (i := 1) sc_common_divisor.nd (de_callB call_abs rf_abs n_abs (dm_r (dr_var 1) dm_nil)))
 (dss_cons (ds_while hp (dt_cmp (op_neA hr) rf_ne (dr_var 1) (DE.r de_int) (nomark _)) (dss_cons (ds_set (i := 2) sc_common_divisor.nd (de_mod (dr_var 0) (dr_var 1)))
 (dss_cons (ds_set (i := 0) sc_common_divisor.nd (de_var 1))
 (dss_one (ds_set (i := 1) sc_common_divisor.nd (de_var 2))))))
 (dss_one (ds_ret (de_var 0))))))) spec

abbrev s_fraction : Stmt := top 6
theorem sc_fraction : FnScope ["top", "bottom", "shared"] ["top", "bottom"] (defScope s_fraction) := ⟨rfl, rfl, rfl, by decide +kernel, rfl, by decide +kernel, by decide +kernel⟩
theorem ok_fraction {B : Bx} {base : Heap} {j : Nat} {f : Addr} {fd : FuncData} {sp : SpM} {p_common_divisor : SpM} (h_common_divisor : Fn B base j "common_divisor" [false, false] p_common_divisor) (F : FunD B.K "fraction" "fraction" (defArgs s_fraction) (defBody s_fraction) (defScope s_fraction) [] [] f fd)
    (spec : ∀ ds M Q E, sp ds M Q E → t_fraction p_common_divisor (endsOf Q E) (startE [false, false] 3 ds) M) : FnB B base (j + 1) f fd ["top", "bottom"] [false, false] sp :=
  fnok_of F sc_fraction (fun cdv A outer s H E hr tk hp =>
 (dss_cons (ds_set (i := 2) sc_fraction.nd (de_call h_common_divisor hr tk (Nat.le_refl _) (dm_e (de_var 0) (dm_e (de_var 1) dm_nil))))
 (dss_cons (ds_if (dt_cmp op_lt rf_lt (dr_var 1) (DE.r de_int) (nomark _)) (dss_one (ds_set (i := 2) sc_fraction.nd (de_neg (dr_var 2)))) dss_nil)
 (dss_one (ds_ret (de_tup (dm_e (de_fdiv (dr_var 0) (dr_var 2)) (dm_e (de_fdiv (dr_var 1) (dr_var 2)) dm_nil)))))))) spec

abbrev s_sum_of : Stmt := top 7
theorem sc_sum_of : FnScope ["one", "other"] ["one", "other"] (defScope s_sum_of) := ⟨rfl, rfl, rfl, by decide +kernel, rfl, by decide +kernel, by decide +kernel⟩
theorem ok_sum_of {B : Bx} {base : Heap} {j : Nat} {f : Addr} {fd : FuncData} {sp : SpM} {p_fraction : SpM} (h_fraction : Fn B base j "fraction" [false, false] p_fraction) (F : FunD B.K "sum_of" "sum_of" (defArgs s_sum_of) (defBody s_sum_of) (defScope s_sum_of) [] [] f fd)
    (spec : ∀ ds M Q E, sp ds M Q E → t_sum_of p_fraction (endsOf Q E) (startE [false, false] 2 ds) M) : FnB B base (j + 1) f fd ["one", "other"] [false, false] sp :=
  fnok_of F sc_sum_of (fun cdv A outer s H E hr tk hp =>
 (dss_one (ds_ret (de_call h_fraction hr tk (Nat.le_refl _) (dm_e (de_add (DE.r (de_mulA (DE.r (de_ix hr (dr_var 0) (DE.r de_int))) (DE.r (de_ix hr (dr_var 1) (DE.r de_int))))) (DE.r (de_mulA (DE.r (de_ix hr (dr_var 1) (DE.r de_int))) (DE.r (de_ix hr (dr_var 0) (DE.r de_int)))))) (dm_e (de_mulA (DE.r (de_ix hr (dr_var 0) (DE.r de_int))) (DE.r (de_ix hr (dr_var 1) (DE.r de_int)))) dm_nil)))))) spec

abbrev s_lumps_beside : Stmt := top 16
theorem sc_lumps_beside : FnScope ["one", "other"] ["one", "other"] (defScope s_lumps_beside) := ⟨rfl, rfl, rfl, by decide +kernel, rfl, by decide +kernel, by decide +kernel⟩
theorem ok_lumps_beside {B : Bx} {base : Heap} {j : Nat} {f : Addr} {fd : FuncData} {sp : SpM} {p_sum_of : SpM} (h_sum_of : Fn B base j "sum_of" [false, false] p_sum_of) (F : FunD B.K "lumps_beside" "lumps_beside" (defArgs s_lumps_beside) (defBody s_lumps_beside) (defScope s_lumps_beside) [] [] f fd)
    (spec : ∀ ds M Q E, sp ds M Q E → t_lumps_beside p_sum_of (endsOf Q E) (startE [false, false] 2 ds) M) : FnB B base (j + 1) f fd ["one", "other"] [false, false] sp :=
  fnok_of F sc_lumps_beside (fun cdv A outer s H E hr tk hp =>
 (dss_one (ds_ret (de_tup (dm_e (de_add (DE.r (de_ix hr (dr_var 0) (DE.r de_int))) (DE.r (de_ix hr (dr_var 1) (DE.r de_int)))) (dm_e (de_call h_sum_of hr tk (Nat.le_refl _) (dm_e (de_ix hr (dr_var 0) (DE.r de_int)) (dm_e (de_ix hr (dr_var 1) (DE.r de_int)) dm_nil))) dm_nil)))))) spec

abbrev s_lump_of : Stmt := top 15
theorem sc_lump_of : FnScope ["weight"] ["weight"] (defScope s_lump_of) := ⟨rfl, rfl, rfl, by decide +kernel, rfl, by decide +kernel, by decide +kernel⟩
theorem ok_lump_of {B : Bx} {base : Heap} {j : Nat} {f : Addr} {fd : FuncData} {sp : SpM} (F : FunD B.K "lump_of" "lump_of" (defArgs s_lump_of) (defBody s_lump_of) (defScope s_lump_of) [] [] f fd)
    (spec : ∀ ds M Q E, sp ds M Q E → t_lump_of (endsOf Q E) (startE [false] 1 ds) M) : FnB B base (j + 1) f fd ["weight"] [false] sp :=
  fnok_of F sc_lump_of (fun cdv A outer s H E hr tk hp =>
 (dss_one (ds_ret (de_tup (dm_e de_int (dm_e (de_var 0) dm_nil)))))) spec

abbrev s_l_lumped : Stmt := top 26
theorem sc_l_lumped : FnScope ["_law_weights", "_law_lump_here", "_law_one"] ["_law_weights"] (defScope s_l_lumped) := ⟨rfl, rfl, rfl, by decide +kernel, rfl, by decide +kernel, by decide +kernel⟩
theorem ok_l_lumped {B : Bx} {base : Heap} {j : Nat} {f : Addr} {fd : FuncData} {sp : SpM} {p_lumps_beside : SpM} {p_lump_of : SpM} (h_lumps_beside : Fn B base j "lumps_beside" [false, false] p_lumps_beside) (h_lump_of : Fn B base j "lump_of" [false] p_lump_of) (F : FunD B.K "_law_lumped" "_law_lumped" (defArgs s_l_lumped) (defBody s_l_lumped) (defScope s_l_lumped) [] [] f fd)
    (spec : ∀ ds M Q E, sp ds M Q E → t_l_lumped p_lumps_beside p_lump_of (endsOf Q E) (startE [false] 3 ds) M) : FnB B base (j + 1) f fd ["_law_weights"] [false] sp :=
  fnok_of F sc_l_lumped (fun cdv A outer s H E hr tk hp =>
 (dss_cons (ds_set (i := 1) sc_l_lumped.nd (de_tup (dm_e de_int (dm_e (de_tup (dm_e de_int (dm_e de_int dm_nil))) dm_nil))))
 (dss_cons (ds_for hp rfl (di_any (de_var 0)) (dg_name (i := 2) sc_l_lumped.nd) (dss_one (ds_set (i := 1) sc_l_lumped.nd (de_call h_lumps_beside hr tk (Nat.le_refl _) (dm_e (de_var 1) (dm_e (de_call h_lump_of hr tk (Nat.le_refl _) (dm_e (de_var 2) dm_nil)) dm_nil))))))
 (dss_one (ds_ret (de_var 1)))))) spec

abbrev s_l_lists : Stmt := top 27
theorem sc_l_lists : FnScope ["_law_weights", "_law_m", "_law_first"] ["_law_weights", "_law_m"] (defScope s_l_lists) := ⟨rfl, rfl, rfl, by decide +kernel, rfl, by decide +kernel, by decide +kernel⟩
theorem ok_l_lists {B : Bx} {base : Heap} {j : Nat} {f : Addr} {fd : FuncData} {sp : SpM} (F : FunD B.K "_law_lists" "_law_lists" (defArgs s_l_lists) (defBody s_l_lists) (defScope s_l_lists) [] [] f fd)
    (spec : ∀ ds M Q E, sp ds M Q E → t_l_lists (endsOf Q E) (startE [false, false] 3 ds) M) : FnB B base (j + 1) f fd ["_law_weights", "_law_m"] [false, false] sp :=
  fnok_of F sc_l_lists (fun cdv A outer s H E hr tk hp =>
 (dss_cons (ds_set (i := 2) sc_l_lists.nd (de_mod (dr_var 1) (DE.r de_int)))
 (dss_one (ds_ret (de_tup (dm_e (de_sl (dr_var 0) do_none (do_some (dr_var 2))) (dm_e (de_sl (dr_var 0) (do_some (dr_var 2)) (do_some (DE.r (de_add (dr_var 2) (DE.r (de_mod (DE.r (de_fdiv (dr_var 1) (DE.r de_int))) (DE.r de_int))))))) dm_nil))))))) spec

abbrev s_Chance_empty : Stmt := inClass (top 13) 1
theorem sc_Chance_empty : FnScope ["self"] ["self"] (defScope s_Chance_empty) := ⟨rfl, rfl, rfl, by decide +kernel, rfl, by decide +kernel, by decide +kernel⟩
theorem ok_Chance_empty {B : Bx} {base : Heap} {j : Nat} {f : Addr} {fd : FuncData} {sp : SpM} (F : FunD B.K "empty" "Chance.empty" (defArgs s_Chance_empty) (defBody s_Chance_empty) (defScope s_Chance_empty) [] [] f fd)
    (spec : ∀ ds M Q E, sp ds M Q E → t_Chance_empty (endsOf Q E) (startE [false] 1 ds) M) : FnB B base (j + 1) f fd ["self"] [false] sp :=
  fnok_of F sc_Chance_empty (fun cdv A outer s H E hr tk hp =>
 (dss_one (ds_ret (de_tup (dm_e de_int (dm_e de_int dm_nil)))))) spec

abbrev s_Scale_empty : Stmt := inClass (top 11) 1
theorem sc_Scale_empty : FnScope ["self"] ["self"] (defScope s_Scale_empty) := ⟨rfl, rfl, rfl, by decide +kernel, rfl, by decide +kernel, by decide +kernel⟩
theorem ok_Scale_empty {B : Bx} {base : Heap} {j : Nat} {f : Addr} {fd : FuncData} {sp : SpM} (F : FunD B.K "empty" "Scale.empty" (defArgs s_Scale_empty) (defBody s_Scale_empty) (defScope s_Scale_empty) [] [] f fd)
    (spec : ∀ ds M Q E, sp ds M Q E → t_Scale_empty (endsOf Q E) (startE [false] 1 ds) M) : FnB B base (j + 1) f fd ["self"] [false] sp :=
  fnok_of F sc_Scale_empty (fun cdv A outer s H E hr tk hp =>
 (dss_one (ds_ret (de_tup (dm_e de_int (dm_e de_int dm_nil)))))) spec

abbrev s_product_of : Stmt := top 8
theorem sc_product_of : FnScope ["one", "other"] ["one", "other"] (defScope s_product_of) := ⟨rfl, rfl, rfl, by decide +kernel, rfl, by decide +kernel, by decide +kernel⟩
theorem ok_product_of {B : Bx} {base : Heap} {j : Nat} {f : Addr} {fd : FuncData} {sp : SpM} {p_fraction : SpM} (h_fraction : Fn B base j "fraction" [false, false] p_fraction) (F : FunD B.K "product_of" "product_of" (defArgs s_product_of) (defBody s_product_of) (defScope s_product_of) [] [] f fd)
    (spec : ∀ ds M Q E, sp ds M Q E → t_product_of p_fraction (endsOf Q E) (startE [false, false] 2 ds) M) : FnB B base (j + 1) f fd ["one", "other"] [false, false] sp :=
  fnok_of F sc_product_of (fun cdv A outer s H E hr tk hp =>
 (dss_one (ds_ret (de_call h_fraction hr tk (Nat.le_refl _) (dm_e (de_mulA (DE.r (de_ix hr (dr_var 0) (DE.r de_int))) (DE.r (de_ix hr (dr_var 1) (DE.r de_int)))) (dm_e (de_mulA (DE.r (de_ix hr (dr_var 0) (DE.r de_int))) (DE.r (de_ix hr (dr_var 1) (DE.r de_int)))) dm_nil)))))) spec

abbrev s_Chance_join : Stmt := inClass (top 13) 3
theorem sc_Chance_join : FnScope ["self", "one", "other"] ["self", "one", "other"] (defScope s_Chance_join) := ⟨rfl, rfl, rfl, by decide +kernel, rfl, by decide +kernel, by decide +kernel⟩
theorem ok_Chance_join {B : Bx} {base : Heap} {j : Nat} {f : Addr} {fd : FuncData} {sp : SpM} {p_product_of : SpM} (h_product_of : Fn B base j "product_of" [false, false] p_product_of) (F : FunD B.K "join" "Chance.join" (defArgs s_Chance_join) (defBody s_Chance_join) (defScope s_Chance_join) [] [] f fd)
    (spec : ∀ ds M Q E, sp ds M Q E → t_Chance_join p_product_of (endsOf Q E) (startE [false, false, false] 3 ds) M) : FnB B base (j + 1) f fd ["self", "one", "other"] [false, false, false] sp :=
  fnok_of F sc_Chance_join (fun cdv A outer s H E hr tk hp =>
 (dss_one (ds_ret (de_call h_product_of hr tk (Nat.le_refl _) (dm_e (de_var 1) (dm_e (de_var 2) dm_nil)))))) spec

abbrev s_Scale_join : Stmt := inClass (top 11) 3
theorem sc_Scale_join : FnScope ["self", "one", "other"] ["self", "one", "other"] (defScope s_Scale_join) := ⟨rfl, rfl, rfl, by decide +kernel, rfl, by decide +kernel, by decide +kernel⟩
theorem ok_Scale_join {B : Bx} {base : Heap} {j : Nat} {f : Addr} {fd : FuncData} {sp : SpM} {p_sum_of : SpM} (h_sum_of : Fn B base j "sum_of" [false, false] p_sum_of) (F : FunD B.K "join" "Scale.join" (defArgs s_Scale_join) (defBody s_Scale_join) (defScope s_Scale_join) [] [] f fd)
    (spec : ∀ ds M Q E, sp ds M Q E → t_Scale_join p_sum_of (endsOf Q E) (startE [false, false, false] 3 ds) M) : FnB B base (j + 1) f fd ["self", "one", "other"] [false, false, false] sp :=
  fnok_of F sc_Scale_join (fun cdv A outer s H E hr tk hp =>
 (dss_one (ds_ret (de_call h_sum_of hr tk (Nat.le_refl _) (dm_e (de_var 1) (dm_e (de_var 2) dm_nil)))))) spec

abbrev s_Scale_together : Stmt := inClass (top 11) 6
theorem sc_Scale_together : FnScope ["self", "weights", "found", "weight"] ["self", "weights"] (defScope s_Scale_together) := ⟨rfl, rfl, rfl, by decide +kernel, rfl, by decide +kernel, by decide +kernel⟩
theorem ok_Scale_together {B : Bx} {base : Heap} {j : Nat} {f : Addr} {fd : FuncData} {sp : SpM} {p_Chance_empty : SpM} {p_Scale_empty : SpM} {p_Chance_join : SpM} {p_Scale_join : SpM} (h_Chance_empty : MtF B base j "Chance" "empty" [false] p_Chance_empty) (h_Cost_empty : MtF B base j "Cost" "empty" [false] p_Scale_empty) (h_Chance_join : MtF B base j "Chance" "join" [false, false, false] p_Chance_join) (h_Cost_join : MtF B base j "Cost" "join" [false, false, false] p_Scale_join) (F : FunD B.K "together" "Scale.together" (defArgs s_Scale_together) (defBody s_Scale_together) (defScope s_Scale_together) [] [] f fd)
    (spec : ∀ ds M Q E, sp ds M Q E → t_Scale_together p_Chance_empty p_Scale_empty p_Chance_join p_Scale_join (endsOf Q E) (startE [false, false] 4 ds) M) : FnB B base (j + 1) f fd ["self", "weights"] [false, false] sp :=
  fnok_of F sc_Scale_together (fun cdv A outer s H E hr tk hp =>
 (dss_cons (ds_set (i := 2) sc_Scale_together.nd (de_meth0 (mt_cons h_Cost_empty (mt_cons h_Chance_empty mt_nil)) hr tk (Nat.le_refl _) (de_var 0)))
 (dss_cons (ds_for hp rfl (di_any (de_var 1)) (dg_name (i := 3) sc_Scale_together.nd) (dss_one (ds_set (i := 2) sc_Scale_together.nd (de_meth (mt_cons h_Cost_join (mt_cons h_Chance_join mt_nil)) hr tk (Nat.le_refl _) (de_var 0) (dm_e (de_var 2) (dm_e (de_var 3) dm_nil))))))
 (dss_one (ds_ret (de_var 2)))))) spec

abbrev s_Chance_lumps_joined_k05 : Stmt := inClass (top 13) 5
theorem sc_Chance_lumps_joined_k05 : FnScope ["self", "one", "other"] ["self", "one", "other"] (defScope s_Chance_lumps_joined_k05) := ⟨rfl, rfl, rfl, by decide +kernel, rfl, by decide +kernel, by decide +kernel⟩
theorem ok_Chance_lumps_joined_k05 {B : Bx} {base : Heap} {j : Nat} {f : Addr} {fd : FuncData} {sp : SpM} {p_product_of : SpM} (h_product_of : Fn B base j "product_of" [false, false] p_product_of) (F : FunD B.K "lumps_joined" "Chance.lumps_joined" (defArgs s_Chance_lumps_joined_k05) (defBody s_Chance_lumps_joined_k05) (defScope s_Chance_lumps_joined_k05) [] [] f fd)
    (spec : ∀ ds M Q E, sp ds M Q E → t_Chance_lumps_joined_k05 p_product_of (endsOf Q E) (startE [false, false, false] 3 ds) M) : FnB B base (j + 1) f fd ["self", "one", "other"] [false, false, false] sp :=
  fnok_of F sc_Chance_lumps_joined_k05 (fun cdv A outer s H E hr tk hp =>
 (dss_one (ds_ret (de_tup (dm_e (de_mulA (DE.r (de_ix hr (dr_var 1) (DE.r de_int))) (DE.r (de_ix hr (dr_var 2) (DE.r de_int)))) (dm_e (de_call h_product_of hr tk (Nat.le_refl _) (dm_e (de_ix hr (dr_var 1) (DE.r de_int)) (dm_e (de_ix hr (dr_var 2) (DE.r de_int)) dm_nil))) dm_nil)))))) spec

abbrev s_Scale_lumps_joined_k05 : Stmt := inClass (top 11) 5
theorem sc_Scale_lumps_joined_k05 : FnScope ["self", "one", "other", "left", "right"] ["self", "one", "other"] (defScope s_Scale_lumps_joined_k05) := ⟨rfl, rfl, rfl, by decide +kernel, rfl, by decide +kernel, by decide +kernel⟩
theorem ok_Scale_lumps_joined_k05 {B : Bx} {base : Heap} {j : Nat} {f : Addr} {fd : FuncData} {sp : SpM} {p_product_of : SpM} {p_sum_of : SpM} (h_product_of : Fn B base j "product_of" [false, false] p_product_of) (h_sum_of : Fn B base j "sum_of" [false, false] p_sum_of) (F : FunD B.K "lumps_joined" "Scale.lumps_joined" (defArgs s_Scale_lumps_joined_k05) (defBody s_Scale_lumps_joined_k05) (defScope s_Scale_lumps_joined_k05) [] [] f fd)
    (spec : ∀ ds M Q E, sp ds M Q E → t_Scale_lumps_joined_k05 p_product_of p_sum_of (endsOf Q E) (startE [false, false, false] 5 ds) M) : FnB B base (j + 1) f fd ["self", "one", "other"] [false, false, false] sp :=
  fnok_of F sc_Scale_lumps_joined_k05 (fun cdv A outer s H E hr tk hp =>
 (dss_cons (ds_set (i := 3) sc_Scale_lumps_joined_k05.nd (de_call h_product_of hr tk (Nat.le_refl _) (dm_e (de_tup (dm_e (de_ix hr (dr_var 1) (DE.r de_int)) (dm_e de_int dm_nil))) (dm_e (de_ix hr (dr_var 2) (DE.r de_int)) dm_nil))))
 (dss_cons (ds_set (i := 4) sc_Scale_lumps_joined_k05.nd (de_call h_product_of hr tk (Nat.le_refl _) (dm_e (de_tup (dm_e (de_ix hr (dr_var 2) (DE.r de_int)) (dm_e de_int dm_nil))) (dm_e (de_ix hr (dr_var 1) (DE.r de_int)) dm_nil))))
 (dss_one (ds_ret (de_tup (dm_e (de_mulA (DE.r (de_ix hr (dr_var 1) (DE.r de_int))) (DE.r (de_ix hr (dr_var 2) (DE.r de_int)))) (dm_e (de_call h_sum_of hr tk (Nat.le_refl _) (dm_e (de_var 3) (dm_e (de_var 4) dm_nil))) dm_nil)))))))) spec

abbrev s_law_k05 : Stmt := top 28
theorem sc_law_k05 : FnScope ["_law_script", "_law_chance", "_law_scale", "_law_weights", "_law_handed", "_law_top", "_law_bottom", "_law_whole_here", "_law_ones", "_law_others", "_law_pairs", "_law_one", "_law_found", "_law_k", "_law_cell", "_law_other"] ["_law_script"] (defScope s_law_k05) := ⟨rfl, rfl, rfl, by decide +kernel, rfl, by decide +kernel, by decide +kernel⟩
theorem ok_law_k05 {B : Bx} {base : Heap} {j : Nat} {f : Addr} {fd : FuncData} {sp : SpM} {p_l_at : SpM} {p_scale_of : SpM} {p_l_weight_k05 : SpM} {p_l_put : SpM} {p_l_fraction : SpM} {p_l_lump : SpM} {p_l_lumped : SpM} {p_l_lists : SpM} {p_l_mix : SpM} {p_Scale_together : SpM} {p_Chance_empty : SpM} {p_Scale_empty : SpM} {p_Chance_lumps_joined_k05 : SpM} {p_Scale_lumps_joined_k05 : SpM} (n_int : B.mg "int" = none) (n_enumerate : B.mg "enumerate" = none) (n_list : B.mg "list" = none) (n_len : B.mg "len" = none) (n_reversed : B.mg "reversed" = none) (h_l_at : Fn B base j "_law_at" [false, false] p_l_at) (h_scale_of : Fn B base j "scale_of" [false] p_scale_of) (h_l_weight_k05 : Fn B base j "_law_weight" [false, false, false] p_l_weight_k05) (h_l_put : Fn B base j "_law_put" [false, false] p_l_put) (h_l_fraction : Fn B base j "_law_fraction" [false, false, false] p_l_fraction) (h_l_lump : Fn B base j "_law_lump" [false, false, false, false] p_l_lump) (h_l_lumped : Fn B base j "_law_lumped" [false] p_l_lumped) (h_l_lists : Fn B base j "_law_lists" [false, false] p_l_lists) (h_l_mix : Fn B base j "_law_mix" [false, false] p_l_mix) (h_Chance_together : MtF B base j "Chance" "together" [false, false] p_Scale_together) (h_Cost_together : MtF B base j "Cost" "together" [false, false] p_Scale_together) (h_Chance_empty : MtF B base j "Chance" "empty" [false] p_Chance_empty) (h_Cost_empty : MtF B base j "Cost" "empty" [false] p_Scale_empty) (h_Chance_lumps_joined : MtF B base j "Chance" "lumps_joined" [false, false, false] p_Chance_lumps_joined_k05) (h_Cost_lumps_joined : MtF B base j "Cost" "lumps_joined" [false, false, false] p_Scale_lumps_joined_k05) (F : FunD B.K "law" "law" (defArgs s_law_k05) (defBody s_law_k05) (defScope s_law_k05) [] [] f fd)
    (spec : ∀ ds M Q E, sp ds M Q E → t_law_k05 p_l_at p_scale_of p_l_weight_k05 p_l_put p_l_fraction p_l_lump p_l_lumped p_l_lists p_l_mix p_Scale_together p_Chance_empty p_Scale_empty p_Chance_lumps_joined_k05 p_Scale_lumps_joined_k05 (endsOf Q E) (startE [false] 16 ds) M) : FnB B base (j + 1) f fd ["_law_script"] [false] sp :=
  fnok_of F sc_law_k05 (fun cdv A outer s H E hr tk hp =>
 (dss_cons (ds_set (i := 1) sc_law_k05.nd (de_cmp (op_eqA hr) rf_eq (DE.r (de_mod (DE.r (de_call h_l_at hr tk (Nat.le_refl _) (dm_e (de_var 0) (dm_e de_int dm_nil)))) (DE.r de_int))) (DE.r de_int) (nomark _)))
 (dss_cut (ds_set (i := 2) sc_law_k05.nd (de_call h_scale_of hr tk (Nat.le_refl _) (dm_e (de_ix hr (DE.r (DN.fz (dn_lst (dm_e de_str (dm_e de_str dm_nil))))) (DE.r (de_callTy call_intA rf_int1 n_int (dm_r (dr_var 1) dm_nil)))) dm_nil)))
 (dss_cons (ds_setLc (j := 3) (own := [("_law_k", 13), ("_law_cell", 14)]) sc_law_k05.nd (di_enum n_enumerate (dm_e (de_sl (dr_var 0) (do_some (DE.r de_int)) (do_some (DE.r de_int))) dm_nil)) (blkOk_by (own := [("_law_k", 13), ("_law_cell", 14)]) (N := ["_law_script", "_law_chance", "_law_scale", "_law_weights", "_law_handed", "_law_top", "_law_bottom", "_law_whole_here", "_law_ones", "_law_others", "_law_pairs", "_law_one", "_law_found", "_law_k", "_law_cell", "_law_other"]) (sc := defScope s_law_k05) (by decide +kernel)) (fun _ => (dgk_tup rfl (dgsk_cons (dgk_name (i := 13) sc_law_k05.nd) (dgsk_cons (dgk_name (i := 14) sc_law_k05.nd) dgsk_nil)))) (fun _ => dts_nil) (fun _ => (de_call h_l_weight_k05 hr takes0 (Nat.le_refl _) (dm_e (de_var 14) (dm_e (de_var 13) (dm_e (de_var 1) dm_nil))))))
 (dss_cons (ds_set (i := 4) sc_law_k05.nd (DN.fz (dn_list n_list (dm_r (dr_var 3) dm_nil))))
 (dss_cons (ds_asg (de_call h_l_put hr tk (Nat.le_refl _) (dm_e (de_var 3) (dm_e (de_var 1) dm_nil))) (dg_tup rfl (dgs_cons (dg_name (i := 5) sc_law_k05.nd) (dgs_cons (dg_name (i := 6) sc_law_k05.nd) dgs_nil))))
 (dss_cons (ds_if (DW.t (dw_or (dt_not (dt_tru (DE.r (de_call h_l_fraction hr tk (Nat.le_refl _) (dm_e (de_meth (mt_cons h_Cost_together (mt_cons h_Chance_together mt_nil)) hr tk (Nat.le_refl _) (de_var 2) (dm_e (de_var 4) dm_nil)) (dm_e (de_var 5) (dm_e (de_var 6) dm_nil))))))) (dw_or1 (dt_cmp (op_neA hr) rf_ne (dr_var 4) (dr_var 3) (nomark _))))) (dss_one (ds_ret de_bl)) dss_nil)
 (dss_cons (ds_if (dt_cmp (op_neA hr) rf_ne (DE.r (de_meth (mt_cons h_Cost_together (mt_cons h_Chance_together mt_nil)) hr tk (Nat.le_refl _) (de_var 2) (dm_e (DN.fz (dn_lst dm_nil)) dm_nil))) (DE.r (de_meth0 (mt_cons h_Cost_empty (mt_cons h_Chance_empty mt_nil)) hr tk (Nat.le_refl _) (de_var 2))) (nomark _)) (dss_one (ds_ret de_bl)) dss_nil)
 (dss_cons (ds_set (i := 7) sc_law_k05.nd (de_call h_l_put hr tk (Nat.le_refl _) (dm_e (de_var 3) (dm_e de_bl dm_nil))))
 (dss_cons (ds_if (dt_not (dt_tru (DE.r (de_call h_l_lump hr tk (Nat.le_refl _) (dm_e (de_call h_l_lumped hr tk (Nat.le_refl _) (dm_e (de_var 3) dm_nil)) (dm_e (de_callB call_lenA rf_len n_len (dm_r (dr_var 3) dm_nil)) (dm_e (de_ix hr (dr_var 7) (DE.r de_int)) (dm_e (de_ix hr (dr_var 7) (DE.r de_int)) dm_nil)))))))) (dss_one (ds_ret de_bl)) dss_nil)
 (dss_cons (ds_asg (de_call h_l_lists hr tk (Nat.le_refl _) (dm_e (DN.fz (dn_listRev n_list n_reversed (dr_var 3))) (dm_e (de_call h_l_mix hr tk (Nat.le_refl _) (dm_e (de_call h_l_at hr tk (Nat.le_refl _) (dm_e (de_var 0) (dm_e de_int dm_nil))) (dm_e de_int dm_nil))) dm_nil))) (dg_tup rfl (dgs_cons (dg_name (i := 8) sc_law_k05.nd) (dgs_cons (dg_name (i := 9) sc_law_k05.nd) dgs_nil))))
 (dss_cons (ds_set (i := 10) sc_law_k05.nd (DN.fz (dn_lst dm_nil)))
 (dss_cons (ds_for hp rfl (di_any (de_var 8)) (dg_name (i := 11) sc_law_k05.nd) (dss_one (ds_set (i := 10) sc_law_k05.nd (de_add (dr_var 10) (DE.r (DN.fz (dn_lc (own := [("_law_other", 15)]) sc_law_k05.nd (di_any (de_var 9)) (blkOk_by (own := [("_law_other", 15)]) (N := ["_law_script", "_law_chance", "_law_scale", "_law_weights", "_law_handed", "_law_top", "_law_bottom", "_law_whole_here", "_law_ones", "_law_others", "_law_pairs", "_law_one", "_law_found", "_law_k", "_law_cell", "_law_other"]) (sc := defScope s_law_k05) (by decide +kernel)) (fun _ => (dgk_name (i := 15) sc_law_k05.nd)) (fun _ => dts_nil) (fun _ => (de_call h_l_put hr takes0 (Nat.le_refl _) (dm_e (DN.fz (dn_lst (dm_e (de_var 11) (dm_e (de_var 15) dm_nil)))) (dm_e (de_var 1) dm_nil)))))))))))
 (dss_cons (ds_set (i := 7) sc_law_k05.nd (de_call h_l_put hr tk (Nat.le_refl _) (dm_e (de_var 10) (dm_e de_bl dm_nil))))
 (dss_cons (ds_set (i := 12) sc_law_k05.nd (de_meth (mt_cons h_Cost_lumps_joined (mt_cons h_Chance_lumps_joined mt_nil)) hr tk (Nat.le_refl _) (de_var 2) (dm_e (de_call h_l_lumped hr tk (Nat.le_refl _) (dm_e (de_var 8) dm_nil)) (dm_e (de_call h_l_lumped hr tk (Nat.le_refl _) (dm_e (de_var 9) dm_nil)) dm_nil))))
 (dss_one (ds_ret (de_call h_l_lump hr tk (Nat.le_refl _) (dm_e (de_var 12) (dm_e (de_mulA (DE.r (de_callB call_lenA rf_len n_len (dm_r (dr_var 8) dm_nil))) (DE.r (de_callB call_lenA rf_len n_len (dm_r (dr_var 9) dm_nil)))) (dm_e (de_ix hr (dr_var 7) (DE.r de_int)) (dm_e (de_ix hr (dr_var 7) (DE.r de_int)) dm_nil)))))))))))))))))))))) spec

end K05
end Z

namespace Z
namespace K05
open PySem PySem.Spec PyProof.Rows L2
def d_l_at : He.DefD := ⟨("_law_at", none), "_law_at", "_law_at", defArgs s_l_at, defBody s_l_at, defScope s_l_at, [], []⟩
def d_scale_of : He.DefD := ⟨("scale_of", none), "scale_of", "scale_of", defArgs s_scale_of, defBody s_scale_of, defScope s_scale_of, [], []⟩
def d_l_mix : He.DefD := ⟨("_law_mix", none), "_law_mix", "_law_mix", defArgs s_l_mix, defBody s_l_mix, defScope s_l_mix, [], []⟩
def d_l_lowest : He.DefD := ⟨("_law_lowest", none), "_law_lowest", "_law_lowest", defArgs s_l_lowest, defBody s_l_lowest, defScope s_l_lowest, [], []⟩
def d_l_weight_k05 : He.DefD := ⟨("_law_weight", none), "_law_weight", "_law_weight", defArgs s_l_weight_k05, defBody s_l_weight_k05, defScope s_l_weight_k05, [], []⟩
def d_l_put : He.DefD := ⟨("_law_put", none), "_law_put", "_law_put", defArgs s_l_put, defBody s_l_put, defScope s_l_put, [], []⟩
def d_l_whole : He.DefD := ⟨("_law_whole", none), "_law_whole", "_law_whole", defArgs s_l_whole, defBody s_l_whole, defScope s_l_whole, [], []⟩
def d_l_fraction : He.DefD := ⟨("_law_fraction", none), "_law_fraction", "_law_fraction", defArgs s_l_fraction, defBody s_l_fraction, defScope s_l_fraction, [], []⟩
def d_l_lump : He.DefD := ⟨("_law_lump", none), "_law_lump", "_law_lump", defArgs s_l_lump, defBody s_l_lump, defScope s_l_lump, [], []⟩
def d_common_divisor : He.DefD := ⟨("common_divisor", none), "common_divisor", "common_divisor", defArgs s_common_divisor, defBody s_common_divisor, defScope s_common_divisor, [], []⟩
def d_fraction : He.DefD := ⟨("fraction", none), "fraction", "fraction", defArgs s_fraction, defBody s_fraction, defScope s_fraction, [], []⟩
def d_sum_of : He.DefD := ⟨("sum_of", none), "sum_of", "sum_of", defArgs s_sum_of, defBody s_sum_of, defScope s_sum_of, [], []⟩
def d_lumps_beside : He.DefD := ⟨("lumps_beside", none), "lumps_beside", "lumps_beside", defArgs s_lumps_beside, defBody s_lumps_beside, defScope s_lumps_beside, [], []⟩
def d_lump_of : He.DefD := ⟨("lump_of", none), "lump_of", "lump_of", defArgs s_lump_of, defBody s_lump_of, defScope s_lump_of, [], []⟩
def d_l_lumped : He.DefD := ⟨("_law_lumped", none), "_law_lumped", "_law_lumped", defArgs s_l_lumped, defBody s_l_lumped, defScope s_l_lumped, [], []⟩
def d_l_lists : He.DefD := ⟨("_law_lists", none), "_law_lists", "_law_lists", defArgs s_l_lists, defBody s_l_lists, defScope s_l_lists, [], []⟩
def d_Chance_empty : He.DefD := ⟨("Chance", some "empty"), "empty", "Chance.empty", defArgs s_Chance_empty, defBody s_Chance_empty, defScope s_Chance_empty, [], []⟩
def d_Scale_empty : He.DefD := ⟨("Scale", some "empty"), "empty", "Scale.empty", defArgs s_Scale_empty, defBody s_Scale_empty, defScope s_Scale_empty, [], []⟩
def d_product_of : He.DefD := ⟨("product_of", none), "product_of", "product_of", defArgs s_product_of, defBody s_product_of, defScope s_product_of, [], []⟩
def d_Chance_join : He.DefD := ⟨("Chance", some "join"), "join", "Chance.join", defArgs s_Chance_join, defBody s_Chance_join, defScope s_Chance_join, [], []⟩
def d_Scale_join : He.DefD := ⟨("Scale", some "join"), "join", "Scale.join", defArgs s_Scale_join, defBody s_Scale_join, defScope s_Scale_join, [], []⟩
def d_Scale_together : He.DefD := ⟨("Scale", some "together"), "together", "Scale.together", defArgs s_Scale_together, defBody s_Scale_together, defScope s_Scale_together, [], []⟩
def d_Chance_lumps_joined_k05 : He.DefD := ⟨("Chance", some "lumps_joined"), "lumps_joined", "Chance.lumps_joined", defArgs s_Chance_lumps_joined_k05, defBody s_Chance_lumps_joined_k05, defScope s_Chance_lumps_joined_k05, [], []⟩
def d_Scale_lumps_joined_k05 : He.DefD := ⟨("Scale", some "lumps_joined"), "lumps_joined", "Scale.lumps_joined", defArgs s_Scale_lumps_joined_k05, defBody s_Scale_lumps_joined_k05, defScope s_Scale_lumps_joined_k05, [], []⟩
def d_law_k05 : He.DefD := ⟨("law", none), "law", "law", defArgs s_law_k05, defBody s_law_k05, defScope s_law_k05, [], []⟩
def fn : List He.DefD := [d_l_at, d_scale_of, d_l_mix, d_l_lowest, d_l_weight_k05, d_l_put, d_l_whole, d_l_fraction, d_l_lump, d_common_divisor, d_fraction, d_sum_of, d_lumps_beside, d_lump_of, d_l_lumped, d_l_lists, d_Chance_empty, d_Scale_empty, d_product_of, d_Chance_join, d_Scale_join, d_Scale_together, d_Chance_lumps_joined_k05, d_Scale_lumps_joined_k05, d_law_k05]
def fa : List He.Fa := ([.glo "_law_at", .glo "scale_of", .glo "_law_mix", .glo "_law_lowest", .glo "_law_weight", .glo "_law_put", .glo "_law_whole", .glo "_law_fraction", .glo "_law_lump", .glo "common_divisor", .glo "fraction", .glo "sum_of", .glo "lumps_beside", .glo "lump_of", .glo "_law_lumped", .glo "_law_lists", .glo "product_of", .glo "law", .free "len", .free "abs", .free "int", .free "isinstance", .free "bool", .free "tuple", .free "enumerate"] : List He.Fa) ++ (([.free "list", .free "reversed"] : List He.Fa))
def names : List PySem.Str := ["_wall", "__name__", "WoodError", "NoScale", "common_divisor", "fraction", "sum_of", "product_of", "compared", "Scale", "Cost", "Chance", "scale_of", "lump_of", "lumps_beside", "_law_at", "_law_mix", "_law_lowest", "_law_whole", "_law_fraction", "_law_weight", "_law_put", "_law_lump", "_law_lumped", "_law_lists"]
abbrev R : PySem.W.OpenRow := PySem.W.OpenLaw.row PySem.Challenge.rw_kbestwood_k05_many_together
def ez : List Fz := [mk0B "Cost", mk0B "Chance", xcB "NoScale", mtB "Chance" "empty" "Chance", mtB "Cost" "empty" "Scale", mtB "Chance" "join" "Chance", mtB "Cost" "join" "Scale", mtB "Chance" "together" "Scale", mtB "Cost" "together" "Scale", mtB "Chance" "lumps_joined" "Chance", mtB "Cost" "lumps_joined" "Scale"]
abbrev hk : PySem.W.Hook := hookZ 5 fa fn ez
def ob (s : PySem.W.SharedT) : He.AlD × Bool := obsZ 5 fa fn ez (HandSHeadRun.getT s)
theorem ob_eq (s : PySem.W.SharedT) : ob s = hk.obs s.abs := obsZ_eq (HandSHeadRun.getT_eq s)
theorem run (w : World) : HandSHeadRun.RunEq R (PySem.W.view R.prog [28]) hk ob 20000 names w := by
  intro os
  kernel_rfl
theorem facts {P : Program} {w : World} {K : PySem.W.Frag} {h : Heap} {mg : Str → Option Value} {f : Addr} (KX : K.In h) (G : h.Ns mainGlobals mg) (hfa : mg ("law" : Str) = some (.ref f)) (c : SaysZ fa fn ez K) :
    ∃ fd : FuncData, (∀ (s : Shared) (v : Value), BindsTo s fd ⟨[v], []⟩ [("_law_script", v)]) ∧ ∀ base : Heap, K.In base → base.Ns mainGlobals mg → FnOk P w K mg base (L2.CX P w) 6 f fd ["_law_script"] (liftSp ⟨P, w, K, mg⟩ [false] spLaw) := by
  obtain ⟨fd_law, F_law⟩ := c.d.def_ 24 (d := d_law_k05) rfl
  cases (hfa.symm.trans (He.glo_ok KX G (c.d.fact 17 (f := .glo "law") rfl)))
  have b := FunD.bindsA (ps := ["_law_script"]) F_law fun _ _ _ _ _ _ us hl => match us, hl with | [_], _ => rfl
  refine ⟨fd_law, fun s v => b s [v] rfl, fun base _ _ => ?_⟩
  obtain ⟨fd_l_at, F_l_at⟩ := c.d.def_ 0 (d := d_l_at) rfl
  have b_l_at := F_l_at.bindsN (ps := ["_law_script", "_law_k"]) fun _ _ _ _ _ _ us hl => match us, hl with | [_, _], _ => rfl
  have h_l_at : Fn ⟨P, w, K, mg⟩ base 1 "_law_at" [false, false] (pur sp_l_at) := Fn.mk' F_l_at (He.glo_ok KX G (c.d.fact 0 (f := .glo "_law_at") rfl)) b_l_at (ok_l_at (j := 0) (He.free_ok KX G (c.d.fact 18 (f := .free "len") rfl)) F_l_at r_l_at)
  obtain ⟨fd_scale_of, F_scale_of⟩ := c.d.def_ 1 (d := d_scale_of) rfl
  have b_scale_of := F_scale_of.bindsN (ps := ["word"]) fun _ _ _ _ _ _ us hl => match us, hl with | [_], _ => rfl
  have h_scale_of : Fn ⟨P, w, K, mg⟩ base 1 "scale_of" [false] (pur sp_scale_of) := Fn.mk' F_scale_of (He.glo_ok KX G (c.d.fact 1 (f := .glo "scale_of") rfl)) b_scale_of (ok_scale_of (j := 0) (mk0B_ok KX G (c.e 0 (f := mk0B "Cost") rfl)) (mk0B_ok KX G (c.e 1 (f := mk0B "Chance") rfl)) (xcB_ok KX G (c.e 2 (f := xcB "NoScale") rfl)) F_scale_of r_scale_of)
  obtain ⟨fd_l_mix, F_l_mix⟩ := c.d.def_ 2 (d := d_l_mix) rfl
  have b_l_mix := F_l_mix.bindsN (ps := ["_law_cell", "_law_k"]) fun _ _ _ _ _ _ us hl => match us, hl with | [_, _], _ => rfl
  have h_l_mix : Fn ⟨P, w, K, mg⟩ base 1 "_law_mix" [false, false] (pur sp_l_mix) := Fn.mk' F_l_mix (He.glo_ok KX G (c.d.fact 2 (f := .glo "_law_mix") rfl)) b_l_mix (ok_l_mix (j := 0)  F_l_mix r_l_mix)
  obtain ⟨fd_l_lowest, F_l_lowest⟩ := c.d.def_ 3 (d := d_l_lowest) rfl
  have b_l_lowest := F_l_lowest.bindsN (ps := ["_law_top", "_law_bottom"]) fun _ _ _ _ _ _ us hl => match us, hl with | [_, _], _ => rfl
  have h_l_lowest : Fn ⟨P, w, K, mg⟩ base 1 "_law_lowest" [false, false] (pur sp_l_lowest) := Fn.mk' F_l_lowest (He.glo_ok KX G (c.d.fact 3 (f := .glo "_law_lowest") rfl)) b_l_lowest (ok_l_lowest (j := 0) (He.free_ok KX G (c.d.fact 19 (f := .free "abs") rfl)) F_l_lowest r_l_lowest)
  obtain ⟨fd_l_weight_k05, F_l_weight_k05⟩ := c.d.def_ 4 (d := d_l_weight_k05) rfl
  have b_l_weight_k05 := F_l_weight_k05.bindsN (ps := ["_law_cell", "_law_k", "_law_chance"]) fun _ _ _ _ _ _ us hl => match us, hl with | [_, _, _], _ => rfl
  have h_l_weight_k05 : Fn ⟨P, w, K, mg⟩ base 2 "_law_weight" [false, false, false] (pur sp_l_weight_k05) := Fn.mk' F_l_weight_k05 (He.glo_ok KX G (c.d.fact 4 (f := .glo "_law_weight") rfl)) b_l_weight_k05 (ok_l_weight_k05 (j := 1) (He.free_ok KX G (c.d.fact 20 (f := .free "int") rfl)) (h_l_mix.up (by decide)) (h_l_lowest.up (by decide)) F_l_weight_k05 r_l_weight_k05)
  obtain ⟨fd_l_put, F_l_put⟩ := c.d.def_ 5 (d := d_l_put) rfl
  have b_l_put := F_l_put.bindsN (ps := ["_law_weights", "_law_chance"]) fun _ _ _ _ _ _ us hl => match us, hl with | [_, _], _ => rfl
  have h_l_put : Fn ⟨P, w, K, mg⟩ base 1 "_law_put" [false, false] (pur sp_l_put) := Fn.mk' F_l_put (He.glo_ok KX G (c.d.fact 5 (f := .glo "_law_put") rfl)) b_l_put (ok_l_put (j := 0) (He.free_ok KX G (c.d.fact 20 (f := .free "int") rfl)) F_l_put r_l_put)
  obtain ⟨fd_l_whole, F_l_whole⟩ := c.d.def_ 6 (d := d_l_whole) rfl
  have b_l_whole := F_l_whole.bindsN (ps := ["_law_found"]) fun _ _ _ _ _ _ us hl => match us, hl with | [_], _ => rfl
  have h_l_whole : Fn ⟨P, w, K, mg⟩ base 1 "_law_whole" [false] (pur sp_l_whole) := Fn.mk' F_l_whole (He.glo_ok KX G (c.d.fact 6 (f := .glo "_law_whole") rfl)) b_l_whole (ok_l_whole (j := 0) (He.free_ok KX G (c.d.fact 21 (f := .free "isinstance") rfl)) (He.free_ok KX G (c.d.fact 20 (f := .free "int") rfl)) (He.free_ok KX G (c.d.fact 22 (f := .free "bool") rfl)) F_l_whole r_l_whole)
  obtain ⟨fd_l_fraction, F_l_fraction⟩ := c.d.def_ 7 (d := d_l_fraction) rfl
  have b_l_fraction := F_l_fraction.bindsN (ps := ["_law_found", "_law_top", "_law_bottom"]) fun _ _ _ _ _ _ us hl => match us, hl with | [_, _, _], _ => rfl
  have h_l_fraction : Fn ⟨P, w, K, mg⟩ base 2 "_law_fraction" [false, false, false] (pur sp_l_fraction) := Fn.mk' F_l_fraction (He.glo_ok KX G (c.d.fact 7 (f := .glo "_law_fraction") rfl)) b_l_fraction (ok_l_fraction (j := 1) (He.free_ok KX G (c.d.fact 21 (f := .free "isinstance") rfl)) (He.free_ok KX G (c.d.fact 23 (f := .free "tuple") rfl)) (He.free_ok KX G (c.d.fact 18 (f := .free "len") rfl)) (h_l_whole.up (by decide)) (h_l_lowest.up (by decide)) F_l_fraction r_l_fraction)
  obtain ⟨fd_l_lump, F_l_lump⟩ := c.d.def_ 8 (d := d_l_lump) rfl
  have b_l_lump := F_l_lump.bindsN (ps := ["_law_found", "_law_count", "_law_top", "_law_bottom"]) fun _ _ _ _ _ _ us hl => match us, hl with | [_, _, _, _], _ => rfl
  have h_l_lump : Fn ⟨P, w, K, mg⟩ base 3 "_law_lump" [false, false, false, false] (pur sp_l_lump) := Fn.mk' F_l_lump (He.glo_ok KX G (c.d.fact 8 (f := .glo "_law_lump") rfl)) b_l_lump (ok_l_lump (j := 2) (He.free_ok KX G (c.d.fact 21 (f := .free "isinstance") rfl)) (He.free_ok KX G (c.d.fact 23 (f := .free "tuple") rfl)) (He.free_ok KX G (c.d.fact 18 (f := .free "len") rfl)) (h_l_whole.up (by decide)) (h_l_fraction.up (by decide)) F_l_lump r_l_lump)
  obtain ⟨fd_common_divisor, F_common_divisor⟩ := c.d.def_ 9 (d := d_common_divisor) rfl
  have b_common_divisor := F_common_divisor.bindsN (ps := ["one", "other"]) fun _ _ _ _ _ _ us hl => match us, hl with | [_, _], _ => rfl
  have h_common_divisor : Fn ⟨P, w, K, mg⟩ base 1 "common_divisor" [false, false] (pur sp_common_divisor) := Fn.mk' F_common_divisor (He.glo_ok KX G (c.d.fact 9 (f := .glo "common_divisor") rfl)) b_common_divisor (ok_common_divisor (j := 0) (He.free_ok KX G (c.d.fact 19 (f := .free "abs") rfl)) F_common_divisor r_common_divisor)
  obtain ⟨fd_fraction, F_fraction⟩ := c.d.def_ 10 (d := d_fraction) rfl
  have b_fraction := F_fraction.bindsN (ps := ["top", "bottom"]) fun _ _ _ _ _ _ us hl => match us, hl with | [_, _], _ => rfl
  have h_fraction : Fn ⟨P, w, K, mg⟩ base 2 "fraction" [false, false] (pur sp_fraction) := Fn.mk' F_fraction (He.glo_ok KX G (c.d.fact 10 (f := .glo "fraction") rfl)) b_fraction (ok_fraction (j := 1) (h_common_divisor.up (by decide)) F_fraction r_fraction)
  obtain ⟨fd_sum_of, F_sum_of⟩ := c.d.def_ 11 (d := d_sum_of) rfl
  have b_sum_of := F_sum_of.bindsN (ps := ["one", "other"]) fun _ _ _ _ _ _ us hl => match us, hl with | [_, _], _ => rfl
  have h_sum_of : Fn ⟨P, w, K, mg⟩ base 3 "sum_of" [false, false] (pur sp_sum_of) := Fn.mk' F_sum_of (He.glo_ok KX G (c.d.fact 11 (f := .glo "sum_of") rfl)) b_sum_of (ok_sum_of (j := 2) (h_fraction.up (by decide)) F_sum_of r_sum_of)
  obtain ⟨fd_lumps_beside, F_lumps_beside⟩ := c.d.def_ 12 (d := d_lumps_beside) rfl
  have b_lumps_beside := F_lumps_beside.bindsN (ps := ["one", "other"]) fun _ _ _ _ _ _ us hl => match us, hl with | [_, _], _ => rfl
  have h_lumps_beside : Fn ⟨P, w, K, mg⟩ base 4 "lumps_beside" [false, false] (pur sp_lumps_beside) := Fn.mk' F_lumps_beside (He.glo_ok KX G (c.d.fact 12 (f := .glo "lumps_beside") rfl)) b_lumps_beside (ok_lumps_beside (j := 3) (h_sum_of.up (by decide)) F_lumps_beside r_lumps_beside)
  obtain ⟨fd_lump_of, F_lump_of⟩ := c.d.def_ 13 (d := d_lump_of) rfl
  have b_lump_of := F_lump_of.bindsN (ps := ["weight"]) fun _ _ _ _ _ _ us hl => match us, hl with | [_], _ => rfl
  have h_lump_of : Fn ⟨P, w, K, mg⟩ base 1 "lump_of" [false] (pur sp_lump_of) := Fn.mk' F_lump_of (He.glo_ok KX G (c.d.fact 13 (f := .glo "lump_of") rfl)) b_lump_of (ok_lump_of (j := 0)  F_lump_of r_lump_of)
  obtain ⟨fd_l_lumped, F_l_lumped⟩ := c.d.def_ 14 (d := d_l_lumped) rfl
  have b_l_lumped := F_l_lumped.bindsN (ps := ["_law_weights"]) fun _ _ _ _ _ _ us hl => match us, hl with | [_], _ => rfl
  have h_l_lumped : Fn ⟨P, w, K, mg⟩ base 5 "_law_lumped" [false] (pur sp_l_lumped) := Fn.mk' F_l_lumped (He.glo_ok KX G (c.d.fact 14 (f := .glo "_law_lumped") rfl)) b_l_lumped (ok_l_lumped (j := 4) (h_lumps_beside.up (by decide)) (h_lump_of.up (by decide)) F_l_lumped r_l_lumped)
  obtain ⟨fd_l_lists, F_l_lists⟩ := c.d.def_ 15 (d := d_l_lists) rfl
  have b_l_lists := F_l_lists.bindsN (ps := ["_law_weights", "_law_m"]) fun _ _ _ _ _ _ us hl => match us, hl with | [_, _], _ => rfl
  have h_l_lists : Fn ⟨P, w, K, mg⟩ base 1 "_law_lists" [false, false] (pur sp_l_lists) := Fn.mk' F_l_lists (He.glo_ok KX G (c.d.fact 15 (f := .glo "_law_lists") rfl)) b_l_lists (ok_l_lists (j := 0)  F_l_lists r_l_lists)
  obtain ⟨fd_Chance_empty, F_Chance_empty⟩ := c.d.def_ 16 (d := d_Chance_empty) rfl
  have b_Chance_empty := F_Chance_empty.bindsN (ps := ["self"]) fun _ _ _ _ _ _ us hl => match us, hl with | [_], _ => rfl
  have f_Chance_empty : FnB ⟨P, w, K, mg⟩ base 1 _ fd_Chance_empty ["self"] [false] (pur sp_Chance_empty) := ok_Chance_empty (j := 0)  F_Chance_empty r_Chance_empty
  obtain ⟨fd_Scale_empty, F_Scale_empty⟩ := c.d.def_ 17 (d := d_Scale_empty) rfl
  have b_Scale_empty := F_Scale_empty.bindsN (ps := ["self"]) fun _ _ _ _ _ _ us hl => match us, hl with | [_], _ => rfl
  have f_Scale_empty : FnB ⟨P, w, K, mg⟩ base 1 _ fd_Scale_empty ["self"] [false] (pur sp_Scale_empty) := ok_Scale_empty (j := 0)  F_Scale_empty r_Scale_empty
  obtain ⟨fd_product_of, F_product_of⟩ := c.d.def_ 18 (d := d_product_of) rfl
  have b_product_of := F_product_of.bindsN (ps := ["one", "other"]) fun _ _ _ _ _ _ us hl => match us, hl with | [_, _], _ => rfl
  have h_product_of : Fn ⟨P, w, K, mg⟩ base 3 "product_of" [false, false] (pur sp_product_of) := Fn.mk' F_product_of (He.glo_ok KX G (c.d.fact 16 (f := .glo "product_of") rfl)) b_product_of (ok_product_of (j := 2) (h_fraction.up (by decide)) F_product_of r_product_of)
  obtain ⟨fd_Chance_join, F_Chance_join⟩ := c.d.def_ 19 (d := d_Chance_join) rfl
  have b_Chance_join := F_Chance_join.bindsN (ps := ["self", "one", "other"]) fun _ _ _ _ _ _ us hl => match us, hl with | [_, _, _], _ => rfl
  have f_Chance_join : FnB ⟨P, w, K, mg⟩ base 4 _ fd_Chance_join ["self", "one", "other"] [false, false, false] (pur sp_Chance_join) := ok_Chance_join (j := 3) (h_product_of.up (by decide)) F_Chance_join r_Chance_join
  obtain ⟨fd_Scale_join, F_Scale_join⟩ := c.d.def_ 20 (d := d_Scale_join) rfl
  have b_Scale_join := F_Scale_join.bindsN (ps := ["self", "one", "other"]) fun _ _ _ _ _ _ us hl => match us, hl with | [_, _, _], _ => rfl
  have f_Scale_join : FnB ⟨P, w, K, mg⟩ base 4 _ fd_Scale_join ["self", "one", "other"] [false, false, false] (pur sp_Scale_join) := ok_Scale_join (j := 3) (h_sum_of.up (by decide)) F_Scale_join r_Scale_join
  have h_Chance_empty : MtF ⟨P, w, K, mg⟩ base 1 "Chance" "empty" [false] (pur sp_Chance_empty) := MtF.mk' KX G (c.e 3 (f := mtB "Chance" "empty" "Chance") rfl) b_Chance_empty f_Chance_empty
  have h_Cost_empty : MtF ⟨P, w, K, mg⟩ base 1 "Cost" "empty" [false] (pur sp_Scale_empty) := MtF.mk' KX G (c.e 4 (f := mtB "Cost" "empty" "Scale") rfl) b_Scale_empty f_Scale_empty
  have h_Chance_join : MtF ⟨P, w, K, mg⟩ base 4 "Chance" "join" [false, false, false] (pur sp_Chance_join) := MtF.mk' KX G (c.e 5 (f := mtB "Chance" "join" "Chance") rfl) b_Chance_join f_Chance_join
  have h_Cost_join : MtF ⟨P, w, K, mg⟩ base 4 "Cost" "join" [false, false, false] (pur sp_Scale_join) := MtF.mk' KX G (c.e 6 (f := mtB "Cost" "join" "Scale") rfl) b_Scale_join f_Scale_join
  obtain ⟨fd_Scale_together, F_Scale_together⟩ := c.d.def_ 21 (d := d_Scale_together) rfl
  have b_Scale_together := F_Scale_together.bindsN (ps := ["self", "weights"]) fun _ _ _ _ _ _ us hl => match us, hl with | [_, _], _ => rfl
  have f_Scale_together : FnB ⟨P, w, K, mg⟩ base 5 _ fd_Scale_together ["self", "weights"] [false, false] (pur sp_Scale_together) := ok_Scale_together (j := 4) (h_Chance_empty.up (by decide)) (h_Cost_empty.up (by decide)) (h_Chance_join.up (by decide)) (h_Cost_join.up (by decide)) F_Scale_together r_Scale_together
  obtain ⟨fd_Chance_lumps_joined_k05, F_Chance_lumps_joined_k05⟩ := c.d.def_ 22 (d := d_Chance_lumps_joined_k05) rfl
  have b_Chance_lumps_joined_k05 := F_Chance_lumps_joined_k05.bindsN (ps := ["self", "one", "other"]) fun _ _ _ _ _ _ us hl => match us, hl with | [_, _, _], _ => rfl
  have f_Chance_lumps_joined_k05 : FnB ⟨P, w, K, mg⟩ base 4 _ fd_Chance_lumps_joined_k05 ["self", "one", "other"] [false, false, false] (pur sp_Chance_lumps_joined_k05) := ok_Chance_lumps_joined_k05 (j := 3) (h_product_of.up (by decide)) F_Chance_lumps_joined_k05 r_Chance_lumps_joined_k05
  obtain ⟨fd_Scale_lumps_joined_k05, F_Scale_lumps_joined_k05⟩ := c.d.def_ 23 (d := d_Scale_lumps_joined_k05) rfl
  have b_Scale_lumps_joined_k05 := F_Scale_lumps_joined_k05.bindsN (ps := ["self", "one", "other"]) fun _ _ _ _ _ _ us hl => match us, hl with | [_, _, _], _ => rfl
  have f_Scale_lumps_joined_k05 : FnB ⟨P, w, K, mg⟩ base 4 _ fd_Scale_lumps_joined_k05 ["self", "one", "other"] [false, false, false] (pur sp_Scale_lumps_joined_k05) := ok_Scale_lumps_joined_k05 (j := 3) (h_product_of.up (by decide)) (h_sum_of.up (by decide)) F_Scale_lumps_joined_k05 r_Scale_lumps_joined_k05
  have h_Chance_together : MtF ⟨P, w, K, mg⟩ base 5 "Chance" "together" [false, false] (pur sp_Scale_together) := MtF.mk' KX G (c.e 7 (f := mtB "Chance" "together" "Scale") rfl) b_Scale_together f_Scale_together
  have h_Cost_together : MtF ⟨P, w, K, mg⟩ base 5 "Cost" "together" [false, false] (pur sp_Scale_together) := MtF.mk' KX G (c.e 8 (f := mtB "Cost" "together" "Scale") rfl) b_Scale_together f_Scale_together
  have h_Chance_lumps_joined : MtF ⟨P, w, K, mg⟩ base 4 "Chance" "lumps_joined" [false, false, false] (pur sp_Chance_lumps_joined_k05) := MtF.mk' KX G (c.e 9 (f := mtB "Chance" "lumps_joined" "Chance") rfl) b_Chance_lumps_joined_k05 f_Chance_lumps_joined_k05
  have h_Cost_lumps_joined : MtF ⟨P, w, K, mg⟩ base 4 "Cost" "lumps_joined" [false, false, false] (pur sp_Scale_lumps_joined_k05) := MtF.mk' KX G (c.e 10 (f := mtB "Cost" "lumps_joined" "Scale") rfl) b_Scale_lumps_joined_k05 f_Scale_lumps_joined_k05
  exact (ok_law_k05 (B := ⟨P, w, K, mg⟩) (base := base) (j := 5) (He.free_ok KX G (c.d.fact 20 (f := .free "int") rfl)) (He.free_ok KX G (c.d.fact 24 (f := .free "enumerate") rfl)) (He.free_ok KX G (c.d.fact 25 (f := .free "list") rfl)) (He.free_ok KX G (c.d.fact 18 (f := .free "len") rfl)) (He.free_ok KX G (c.d.fact 26 (f := .free "reversed") rfl)) (h_l_at.up (by decide)) (h_scale_of.up (by decide)) (h_l_weight_k05.up (by decide)) (h_l_put.up (by decide)) (h_l_fraction.up (by decide)) (h_l_lump.up (by decide)) (h_l_lumped.up (by decide)) (h_l_lists.up (by decide)) (h_l_mix.up (by decide)) (h_Chance_together.up (by decide)) (h_Cost_together.up (by decide)) (h_Chance_empty.up (by decide)) (h_Cost_empty.up (by decide)) (h_Chance_lumps_joined.up (by decide)) (h_Cost_lumps_joined.up (by decide)) F_law r_law_k05 : FnB ⟨P, w, K, mg⟩ base 6 _ _ _ _ _)
end K05
end Z
open PySem PySem.W PySem.Calls PyProof.Rows
set_option maxRecDepth 100000 in
set_option maxHeartbeats 0 in
theorem PySem.Challenge.cw_kbestwood_k05_many_together_holds : PySem.Challenge.rw_kbestwood_k05_many_together.Holds := by
  w_on; o_law
  refine HandSHeadRun.head_any (r := OpenLaw.row PySem.Challenge.rw_kbestwood_k05_many_together) (q := view (OpenLaw.row PySem.Challenge.rw_kbestwood_k05_many_together).prog [28]) (H := Z.K05.hk) (ob := Z.K05.ob) (M := 20000) (loose := Z.K05.names) (d := HandSHeadRun.topDef (OpenLaw.row PySem.Challenge.rw_kbestwood_k05_many_together).prog 28) (kwd := []) Z.K05.ob_eq
    (by kernel_rfl) (fun s => by kernel_rfl) Z.K05.run (by kernel_rfl) (by kernel_rfl) (by kernel_rfl) (by rfl) (by first | assumption | decide +kernel) (by decide +kernel) ⟨rfl, rfl, rfl, rfl, rfl, by decide +kernel⟩ ?hw ?hc
  case hw => w_witness2
  case hc =>
    refine Z.walkZ (l := PySem.Challenge.rw_kbestwood_k05_many_together) (k := 6) (x := "_law_script") rfl (by kernel_rfl) ⟨rfl, by decide, by decide⟩ ?F
    intro w mg fa h Y G hmg0
    obtain ⟨K, KX, c⟩ := Y
    have hmg : mg ("law" : PySem.Str) = some (.ref fa) := by
      have e : (HandSHeadRun.topDef (OpenLaw.row PySem.Challenge.rw_kbestwood_k05_many_together).prog 28).name = ("law" : PySem.Str) := by kernel_rfl
      rw [← e]
      exact hmg0
    obtain ⟨fd, hb, hF⟩ := Z.K05.facts (P := (PySem.Challenge.rw_kbestwood_k05_many_together).prog) (w := w) KX G hmg c
    exact ⟨K, fd, _, KX, hb, fun H a ns hl hS => Z.law_ok (B := ⟨(PySem.Challenge.rw_kbestwood_k05_many_together).prog, w, K, mg⟩) H a ns hl hS, hF⟩
