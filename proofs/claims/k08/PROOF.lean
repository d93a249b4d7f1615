import PyProof.Rows.All
import Wide.All
import OpenK.AllK
import Wide.FinOn
import HandS.ForMost
import HandS.ForExc
import HandS.Wide
import HandS.Evl
import HandS.IsInst
import HandS.TupAny
import KE.KDictKeyed
import HandS.SetKeys
import HandS.TupLen
import HandS.Conv
import KE.GoesMore
import HandS.Defaults
import HandS.HeadEnd
import HandS.WordsExc
import HandS.ExcOwn
import HandS.StrMore
import HandS.Zip
import HandS.RevRange
import HandS.HeadHook2
import HandS.ExcIs
import HandS.New0
import HandS.More
import KE.KStateDown
import Lean
import HandS.Words
import HandS.Head0
import HandS.Head1
import HandS.Head2
import HandS.HeadHook1
import HandS.Deep
import HandS.TryMany
import PyProof.StrOps2
import HandS.Rev
import HandS.RevTup
import HandS.Flow
import HandS.HotCalls
import KE.LtSeq
import KE.DataEq
import KE.SortKeyHeap
import HandS.SortKw
import PySem.Challenge.RW_kbestwood_k08_a_rule
set_option Elab.async false
set_option linter.all false
set_option maxRecDepth 100000
set_option maxHeartbeats 4000000
namespace Z
open PySem L2
open Evl (Ex)
inductive D where
  | non | bl (b : Bool) | int (i : Int) | str (x : Str)
  | lst (xs : List D) | tup (xs : List D)
  | obj (n : Str) (fs : List (Str × D))
  | ref (a : Addr) | ty (n : String) | cls (n : Str) | exc (n : Str)
  | dic (t : Bool) (kvs : List (D × D))
deriving Inhabited
structure Bx where
  P : Program
  w : World
  K : PySem.W.Frag
  mg : Str → Option Value
def Bx.cl (B : Bx) (n : Str) : Addr := match B.mg n with | some (.ref C) => C | _ => 0
def ExcAt (a C : Addr) : Heap → Prop := fun h => ∃ oe vs, h.get? a = some oe ∧ oe.cls = .ref C ∧ oe.dict = none ∧ oe.data = .fields vs
def DkAt (B : Bx) (a : Addr) (o : Obj) (kv : List (Key × V)) : Heap → Prop := fun h => h.get? a = some o ∧ kv.length ≤ sizeLine ∧ (a == sysModules) = false ∧ ∃ vs, KV kv vs ∧ h.DictOf (mixKind B.P B.w) a vs
def RawD (B : Bx) (a : Addr) (o : Obj) (xs : List (NestedKey × Addr × Value)) : Heap → Prop := fun h => h.get? a = some o ∧ xs.length ≤ sizeLine ∧ (a == sysModules) = false ∧ o.ExactDict ∧ (xs.map (·.1)).Nodup ∧ ∃ es ep, o.data = .dict es ep ∧ es.toList = xs.map (entryOfKey (nestedKind B.P B.w))
mutual
def nk : D → Option NestedKey
  | .non => some .none
  | .bl b => some (.num (if b then 1 else 0))
  | .int i => some (.num i)
  | .str x => some (.text x)
  | .tup xs => (nks xs).map .tup
  | _ => none
def nks : List D → Option (List NestedKey)
  | [] => some []
  | d :: ds => match nk d, nks ds with | some k, some ks => some (k :: ks) | _, _ => none
end
def keyD : Key → D
  | .inl i => .int i
  | .inr x => .str x
mutual
inductive Rp (B : Bx) (F : Hp) : V → D → Prop
  | non : Rp B F .non .non
  | bl (b : Bool) : Rp B F (.bl b) (.bl b)
  | int (i : Int) : Rp B F (.int i) (.int i)
  | str (x : Str) : Rp B F (.str x) (.str x)
  | ty (n : String) : Rp B F (.ty n) (.ty n)
  | cls (n : Str) : Rp B F (.ref (B.cl n)) (.cls n)
  | ref (a : Addr) : Rp B F (.ref a) (.ref a)
  | lst {a : Addr} {xs : List V} {ds : List D} : SqL B.K F a xs → RpAll B F xs ds → Rp B F (.ref a) (.lst ds)
  | tup {a : Addr} {xs : List V} {ds : List D} : SqT B.K F a xs → RpAll B F xs ds → Rp B F (.ref a) (.tup ds)
  | obj {a dx : Addr} {n : Str} {fv : List (Str × V)} {fs : List (Str × D)} : F a = some (.ins (B.cl n) dx fv) → RpF B F fv fs → Rp B F (.ref a) (.obj n fs)
  | exc {a : Addr} {n : Str} : F a = some (.ext (ExcAt a (B.cl n))) → Rp B F (.ref a) (.exc n)
  | dic {a : Addr} {o : Obj} {kv : List (Key × V)} {ks : List (D × D)} : F a = some (.ext (DkAt B a o kv)) → RpK B F kv ks → Rp B F (.ref a) (.dic false ks)
  | dit {a : Addr} {o : Obj} {xs : List (NestedKey × Addr × Value)} {ks : List (D × D)} : F a = some (.ext (RawD B a o xs)) → RpX B F xs ks → Rp B F (.ref a) (.dic true ks)
inductive RpAll (B : Bx) (F : Hp) : List V → List D → Prop
  | nil : RpAll B F [] []
  | cons {v : V} {vs : List V} {d : D} {ds : List D} : Rp B F v d → RpAll B F vs ds → RpAll B F (v :: vs) (d :: ds)
inductive RpF (B : Bx) (F : Hp) : List (Str × V) → List (Str × D) → Prop
  | nil : RpF B F [] []
  | cons {f : Str} {v : V} {vs : List (Str × V)} {d : D} {ds : List (Str × D)} : Rp B F v d → RpF B F vs ds → RpF B F ((f, v) :: vs) ((f, d) :: ds)
inductive RpK (B : Bx) (F : Hp) : List (Key × V) → List (D × D) → Prop
  | nil : RpK B F [] []
  | cons {k : Key} {v : V} {vs : List (Key × V)} {d : D} {ds : List (D × D)} : Rp B F v d → RpK B F vs ds → RpK B F ((k, v) :: vs) ((keyD k, d) :: ds)
inductive RpX (B : Bx) (F : Hp) : List (NestedKey × Addr × Value) → List (D × D) → Prop
  | nil : RpX B F [] []
  | cons {k : NestedKey} {a : Addr} {u : Value} {v : V} {vs : List (NestedKey × Addr × Value)} {c d : D} {ds : List (D × D)} : Rp B F (.ref a) c → nk c = some k → k.depth ≤ 8 → RelV v u → Rp B F v d → RpX B F vs ds → RpX B F ((k, a, u) :: vs) ((c, d) :: ds)
end
mutual
theorem Rp.mono {B : Bx} {F F' : Hp} (e : Ex F F') : ∀ {v : V} {d : D}, Rp B F v d → Rp B F' v d
  | _, _, .non => .non
  | _, _, .bl b => .bl b
  | _, _, .int i => .int i
  | _, _, .str x => .str x
  | _, _, .ty n => .ty n
  | _, _, .cls n => .cls n
  | _, _, .ref a => .ref a
  | _, _, .lst h a => .lst (Evl.ex_l e h) (RpAll.mono e a)
  | _, _, .tup h a => .tup (Evl.ex_t e h) (RpAll.mono e a)
  | _, _, .obj h a => .obj (e _ _ h) (RpF.mono e a)
  | _, _, .exc h => .exc (e _ _ h)
  | _, _, .dic h a => .dic (e _ _ h) (RpK.mono e a)
  | _, _, .dit h a => .dit (e _ _ h) (RpX.mono e a)
theorem RpAll.mono {B : Bx} {F F' : Hp} (e : Ex F F') : ∀ {v : List V} {d : List D}, RpAll B F v d → RpAll B F' v d
  | _, _, .nil => .nil
  | _, _, .cons h t => .cons (Rp.mono e h) (RpAll.mono e t)
theorem RpF.mono {B : Bx} {F F' : Hp} (e : Ex F F') : ∀ {v : List (Str × V)} {d : List (Str × D)}, RpF B F v d → RpF B F' v d
  | _, _, .nil => .nil
  | _, _, .cons h t => .cons (Rp.mono e h) (RpF.mono e t)
theorem RpK.mono {B : Bx} {F F' : Hp} (e : Ex F F') : ∀ {v : List (Key × V)} {d : List (D × D)}, RpK B F v d → RpK B F' v d
  | _, _, .nil => .nil
  | _, _, .cons h t => .cons (Rp.mono e h) (RpK.mono e t)
theorem RpX.mono {B : Bx} {F F' : Hp} (e : Ex F F') : ∀ {v : List (NestedKey × Addr × Value)} {d : List (D × D)}, RpX B F v d → RpX B F' v d
  | _, _, .nil => .nil
  | _, _, .cons c n n8 r h t => .cons (Rp.mono e c) n n8 r (Rp.mono e h) (RpX.mono e t)
end
section
variable {B : Bx} {F F' : Hp}
theorem RpAll.length : ∀ {vs : List V} {ds : List D}, RpAll B F vs ds → vs.length = ds.length
  | _, _, .nil => rfl
  | _, _, .cons _ t => congrArg (· + 1) t.length
theorem RpAll.get : ∀ {vs : List V} {ds : List D} {i : Nat} {d : D}, RpAll B F vs ds → ds[i]? = some d → ∃ v, vs[i]? = some v ∧ Rp B F v d
  | _, _, _, _, .nil, e => by simp at e
  | _, _, 0, _, .cons h _, e => by simp at e; subst e; exact ⟨_, rfl, h⟩
  | _, _, i + 1, d, .cons _ t, e => by
    obtain ⟨v, h1, h2⟩ := RpAll.get (i := i) (d := d) t (by simpa using e)
    exact ⟨v, by simpa using h1, h2⟩
theorem RpAll.append : ∀ {vs us : List V} {ds es : List D}, RpAll B F vs ds → RpAll B F us es → RpAll B F (vs ++ us) (ds ++ es)
  | _, _, _, _, .nil, s => s
  | _, _, _, _, .cons r t, s => .cons r (RpAll.append t s)
theorem RpAll.take : ∀ {vs : List V} {ds : List D} (n : Nat), RpAll B F vs ds → RpAll B F (vs.take n) (ds.take n)
  | _, _, 0, _ => .nil
  | _, _, _ + 1, .nil => .nil
  | _, _, n + 1, .cons r t => .cons r (RpAll.take n t)
theorem RpAll.drop : ∀ {vs : List V} {ds : List D} (n : Nat), RpAll B F vs ds → RpAll B F (vs.drop n) (ds.drop n)
  | _, _, 0, r => r
  | _, _, _ + 1, .nil => .nil
  | _, _, n + 1, .cons _ t => RpAll.drop n t
theorem RpAll.set {v : V} {d : D} (r : Rp B F v d) : ∀ {vs : List V} {ds : List D} (i : Nat), RpAll B F vs ds → RpAll B F (vs.set i v) (ds.set i d)
  | _, _, _, .nil => .nil
  | _, _, 0, .cons _ t => .cons r t
  | _, _, i + 1, .cons q t => .cons q (RpAll.set r i t)
theorem RpAll.reverse {vs : List V} {ds : List D} (h : RpAll B F vs ds) : RpAll B F vs.reverse ds.reverse := by
  induction vs generalizing ds with
  | nil => cases h; exact .nil
  | cons v vs ih =>
    cases h with
    | cons r t =>
      rw [List.reverse_cons, List.reverse_cons]
      exact (ih t).append (.cons r .nil)
theorem RpAll.dropLast {vs : List V} {ds : List D} (h : RpAll B F vs ds) : RpAll B F vs.dropLast ds.dropLast := by
  rw [List.dropLast_eq_take, List.dropLast_eq_take, h.length]
  exact h.take _
theorem RpAll.eraseIdx : ∀ {vs : List V} {ds : List D} (i : Nat), RpAll B F vs ds → RpAll B F (vs.eraseIdx i) (ds.eraseIdx i)
  | _, _, _, .nil => .nil
  | _, _, 0, .cons _ t => t
  | _, _, i + 1, .cons r t => .cons r (RpAll.eraseIdx i t)
theorem RpAll.rep {vs : List V} {ds : List D} (h : RpAll B F vs ds) : ∀ k : Nat, RpAll B F (List.replicate k vs).flatten (List.replicate k ds).flatten
  | 0 => .nil
  | k + 1 => by
    rw [List.replicate_succ, List.replicate_succ, List.flatten_cons, List.flatten_cons]
    exact h.append (RpAll.rep h k)
theorem RpAll.strs : ∀ {vs : List V} {ss : List Str}, RpAll B F vs (ss.map D.str) → vs = ss.map V.str
  | _, [], .nil => rfl
  | _, _ :: _, .cons h t => by cases h; rw [t.strs]; rfl
theorem RpAll.of_ints : ∀ (ss : List Int), RpAll B F (ss.map V.int) (ss.map D.int)
  | [] => .nil
  | s :: ss => .cons (.int s) (RpAll.of_ints ss)
theorem RpAll.bls : ∀ {vs : List V} {ss : List Bool}, RpAll B F vs (ss.map D.bl) → vs = ss.map V.bl
  | _, [], .nil => rfl
  | _, _ :: _, .cons h t => by cases h; rw [t.bls]; rfl
theorem RpF.lookup {f : Str} {d : D} : ∀ {fv : List (Str × V)} {fs : List (Str × D)}, RpF B F fv fs → fs.lookup f = some d → ∃ v, fv.lookup f = some v ∧ Rp B F v d
  | _, _, .nil, e => by simp at e
  | _, _, .cons (f := g) h t, e => by
    rw [List.lookup_cons] at e ⊢
    cases q : f == g with
    | true => rw [q] at e; cases e; exact ⟨_, rfl, h⟩
    | false => rw [q] at e; exact RpF.lookup t e
theorem RpF.none {f : Str} : ∀ {fv : List (Str × V)} {fs : List (Str × D)}, RpF B F fv fs → fs.lookup f = none → fv.lookup f = none
  | _, _, .nil, _ => rfl
  | _, _, .cons (f := g) h t, e => by
    rw [List.lookup_cons] at e ⊢
    cases q : f == g with
    | true => rw [q] at e; cases e
    | false => rw [q] at e; exact RpF.none t e
theorem RpF.length : ∀ {vs : List (Str × V)} {ds : List (Str × D)}, RpF B F vs ds → vs.length = ds.length
  | _, _, .nil => rfl
  | _, _, .cons _ t => congrArg (· + 1) t.length
end
structure Wd where
  F : Hp
  H : Hp
  ok : Ex F H
structure Wd.le (W W' : Wd) : Prop where
  f : Ex W.F W'.F
  h : Ex W.H W'.H
  n : ∀ a, W.H a ≠ none → W.F a = none → W'.F a = none
theorem Wd.le.refl (W : Wd) : W.le W := ⟨Ex.refl _, Ex.refl _, fun _ _ h => h⟩
theorem ex_some {H H' : Hp} (e : Ex H H') {a : Addr} (h : H a ≠ none) : H' a ≠ none := by
  cases q : H a with
  | none => exact absurd q h
  | some o => rw [e a o q]; exact fun z => by cases z
theorem ex_none {H H' : Hp} (e : Ex H H') {a : Addr} (h : H' a = none) : H a = none := by
  cases q : H a with
  | none => rfl
  | some o => rw [e a o q] at h; cases h
theorem Wd.le.trans {W W' W'' : Wd} (a : W.le W') (b : W'.le W'') : W.le W'' :=
  ⟨a.f.trans b.f, a.h.trans b.h, fun x h1 h2 => b.n x (ex_some a.h h1) (a.n x h1 h2)⟩
theorem upd_ex {H : Hp} {p : Addr} {o : HO} (h : H p = none) : Ex H (upd H p o) := Ex.new h
theorem Wd.fnone (W : Wd) {p : Addr} (h : W.H p = none) : W.F p = none := ex_none W.ok h
theorem upd_upd_ex {F H : Hp} (e : Ex F H) {p : Addr} {o : HO} : Ex (upd F p o) (upd H p o) := fun a u h => by
  by_cases z : a = p
  · subst z; rw [upd_same] at h ⊢; exact h
  · rw [upd_ne z] at h ⊢; exact e a u h
theorem ex_upd {F H : Hp} (e : Ex F H) {p : Addr} {o : HO} (hp : F p = none) : Ex F (upd H p o) := Ex.mut e hp
def Wd.new (W : Wd) (p : Addr) (o : HO) : Wd := ⟨upd W.F p o, upd W.H p o, upd_upd_ex W.ok⟩
theorem Wd.le_new (W : Wd) {p : Addr} {o : HO} (hp : W.H p = none) : W.le (W.new p o) :=
  ⟨upd_ex (W.fnone hp), upd_ex hp, fun a h1 h2 => by
    show upd W.F p o a = none
    rw [upd_ne (fun z => by subst z; exact h1 hp)]; exact h2⟩
def Wd.lay (W : Wd) (p : Addr) (o : HO) (hp : W.F p = none) : Wd := ⟨W.F, upd W.H p o, ex_upd W.ok hp⟩
theorem Wd.le_lay (W : Wd) {p : Addr} {o : HO} (hp : W.H p = none) : W.le (W.lay p o (W.fnone hp)) := ⟨Ex.refl _, upd_ex hp, fun _ _ h => h⟩
def Wd.frz (W : Wd) (p : Addr) (o : HO) (h : W.H p = some o) : Wd := ⟨upd W.F p o, W.H, fun a u q => by
  by_cases z : a = p
  · subst z; rw [upd_same] at q; rw [h]; exact q
  · rw [upd_ne z] at q; exact W.ok a u q⟩
inductive Ob where
  | lst (ds : List D)
  | dic (t : Bool) (ks : List (D × D))
  | ins (n : Str) (fs : List (Str × D))
abbrev Mu := Addr → Option Ob
def DicO (B : Bx) (F : Hp) (a : Addr) (t : Bool) (ks : List (D × D)) (o : Option HO) : Prop := (t = false ∧ ∃ kv ob, o = some (.ext (DkAt B a ob kv)) ∧ RpK B F kv ks) ∨ (t = true ∧ ∃ xs ob, o = some (.ext (RawD B a ob xs)) ∧ RpX B F xs ks)
def ObOk (B : Bx) (F : Hp) (a : Addr) (o : Option HO) : Option Ob → Prop
  | none => True
  | some (.lst ds) => ∃ vs, o = some (.lst vs) ∧ RpAll B F vs ds
  | some (.dic t ks) => DicO B F a t ks o
  | some (.ins n fs) => ∃ dx fv, o = some (.ins (B.cl n) dx fv) ∧ RpF B F fv fs
theorem DicO.mono {B : Bx} {F F' : Hp} {a : Addr} {t : Bool} {ks : List (D × D)} {o : Option HO} (e : Ex F F') (h : DicO B F a t ks o) : DicO B F' a t ks o := by
  rcases h with ⟨h0, kv, ob, h1, h2⟩ | ⟨h0, xs, ob, h1, h2⟩
  · exact .inl ⟨h0, kv, ob, h1, h2.mono e⟩
  · exact .inr ⟨h0, xs, ob, h1, h2.mono e⟩
theorem DicO.some {B : Bx} {F : Hp} {a : Addr} {t : Bool} {ks : List (D × D)} {o : Option HO} (h : DicO B F a t ks o) : o ≠ none := by
  rcases h with ⟨h0, kv, ob, h1, h2⟩ | ⟨h0, xs, ob, h1, h2⟩ <;> rw [h1] <;> exact fun z => by cases z
theorem ObOk.mono {B : Bx} {F F' : Hp} {a : Addr} {o : Option HO} (e : Ex F F') : ∀ {ob : Option Ob}, ObOk B F a o ob → ObOk B F' a o ob
  | none, _ => trivial
  | some (.lst _), ⟨vs, h1, h2⟩ => ⟨vs, h1, h2.mono e⟩
  | some (.dic _ _), h => DicO.mono e h
  | some (.ins _ _), ⟨dx, fv, h1, h2⟩ => ⟨dx, fv, h1, h2.mono e⟩
theorem ObOk.ne {B : Bx} {F : Hp} {a : Addr} {o : Option HO} : ∀ {ob : Ob}, ObOk B F a o (some ob) → o ≠ none
  | .lst _, ⟨vs, h1, h2⟩ => by rw [h1]; exact fun z => by cases z
  | .dic _ _, h => DicO.some h
  | .ins _ _, ⟨dx, fv, h1, h2⟩ => by rw [h1]; exact fun z => by cases z
def cat (H m : Hp) : Hp := fun a => match H a with | some o => some o | none => m a
theorem cat_some {H m : Hp} {a : Addr} {o : HO} (h : H a = some o) : cat H m a = some o := by unfold cat; rw [h]
theorem cat_none {H m : Hp} {a : Addr} (h : H a = none) : cat H m a = m a := by unfold cat; rw [h]
theorem cat_ex (H m : Hp) : Ex H (cat H m) := fun _ _ h => cat_some h
theorem cat_new {H m : Hp} {a : Addr} (h : cat H m a = none) : H a = none ∧ m a = none := by
  cases q : H a with
  | none => exact ⟨rfl, (cat_none q).symm.trans h⟩
  | some o => rw [cat_some q] at h; cases h
theorem cat_upd {H m : Hp} {a : Addr} {o : HO} : upd (cat H m) a o = cat (upd H a o) m := by
  funext b
  by_cases z : b = a
  · subst z; rw [upd_same, cat_some upd_same]
  · rw [upd_ne z]; unfold cat; rw [upd_ne z]
theorem cat_updm {H m : Hp} {a : Addr} {o : HO} (h : H a = none) : upd (cat H m) a o = cat H (upd m a o) := by
  funext b
  by_cases z : b = a
  · subst z; rw [upd_same, cat_none h, upd_same]
  · rw [upd_ne z]; unfold cat; rw [upd_ne z]
structure MOk (B : Bx) (W : Wd) (M : Mu) (m : Hp) : Prop where
  dj : ∀ a, W.H a ≠ none → m a = none
  ok : ∀ a, ObOk B W.F a (m a) (M a)
section
variable {B : Bx} {W W' : Wd} {M M' : Mu} {m m' : Hp}
theorem MOk.weak (h : MOk B W M' m) (e : ∀ a ob, M a = some ob → M' a = some ob) : MOk B W M m := ⟨h.dj, fun a => by
  cases q : M a with
  | none => trivial
  | some ob => have := h.ok a; rw [e a ob q] at this; exact this⟩
theorem MOk.hn (h : MOk B W M m) {a : Addr} {ob : Ob} (e : M a = some ob) : W.H a = none := by
  have q := h.ok a
  rw [e] at q
  cases z : W.H a with
  | none => rfl
  | some o => exact absurd (h.dj a (by rw [z]; exact fun y => by cases y)) q.ne
theorem MOk.new (h : MOk B W M m) {p : Addr} {o : HO} (hp : cat W.H m p = none) : MOk B (W.new p o) M m := by
  obtain ⟨h1, h2⟩ := cat_new hp
  refine ⟨fun a ha => ?_, fun a => (h.ok a).mono (upd_ex (W.fnone h1))⟩
  by_cases z : a = p
  · subst z; exact h2
  · refine h.dj a ?_
    have : (W.new p o).H a = W.H a := upd_ne z
    rw [← this]; exact ha
theorem MOk.lay (h : MOk B W M m) {p : Addr} {o : HO} (hp : cat W.H m p = none) : MOk B (W.lay p o (W.fnone (cat_new hp).1)) M m := by
  obtain ⟨h1, h2⟩ := cat_new hp
  refine ⟨fun a ha => ?_, fun a => h.ok a⟩
  by_cases z : a = p
  · subst z; exact h2
  · refine h.dj a ?_
    have : (W.lay p o (W.fnone h1)).H a = W.H a := upd_ne z
    rw [← this]; exact ha
theorem MOk.frz (h : MOk B W M m) {p : Addr} {o : HO} (hp : W.H p = some o) (hf : W.F p = none) : MOk B (W.frz p o hp) M m := ⟨h.dj, fun a => (h.ok a).mono (upd_ex hf)⟩
def updM (M : Mu) (a : Addr) (o : Ob) : Mu := fun b => if b = a then some o else M b
theorem updM_same {a : Addr} {o : Ob} : updM M a o a = some o := by unfold updM; rw [if_pos rfl]
theorem updM_ne {a b : Addr} {o : Ob} (h : b ≠ a) : updM M a o b = M b := by unfold updM; rw [if_neg h]
theorem MOk.put (h : MOk B W M m) {a : Addr} {ob : Ob} {o : HO} (ha : W.H a = none) (ho : ObOk B W.F a (some o) (some ob)) : MOk B W (updM M a ob) (upd m a o) := ⟨fun b hb => by
    have z : b ≠ a := fun z => by subst z; exact hb ha
    rw [upd_ne z]; exact h.dj b hb, fun b => by
    by_cases z : b = a
    · subst z; rw [upd_same, updM_same]; exact ho
    · rw [upd_ne z, updM_ne z]; exact h.ok b⟩
end
def drfO (a : Addr) : Option Ob → D
  | some (.lst ds) => .lst ds
  | some (.dic t ks) => .dic t ks
  | some (.ins n fs) => .obj n fs
  | none => .ref a
def drf (M : Mu) : D → D
  | .ref a => drfO a (M a)
  | d => d
def RpR (B : Bx) (F H : Hp) (v : V) : D → Prop
  | .lst ds => ∃ a vs, v = .ref a ∧ SqL B.K H a vs ∧ RpAll B F vs ds
  | .obj n fs => ∃ a dx fv, v = .ref a ∧ H a = some (.ins (B.cl n) dx fv) ∧ RpF B F fv fs
  | .dic t ks => ∃ a, v = .ref a ∧ DicO B F a t ks (H a)
  | d => Rp B F v d
section
variable {B : Bx} {F F' H H' : Hp} {v : V} {d : D}
theorem Rp.r (ok : Ex F H) (h : Rp B F v d) : RpR B F H v d := by
  cases h with
  | lst h a => exact ⟨_, _, rfl, Evl.ex_l ok h, a⟩
  | obj h a => exact ⟨_, _, _, rfl, ok _ _ h, a⟩
  | dic h a => exact ⟨_, rfl, .inl ⟨rfl, _, _, ok _ _ h, a⟩⟩
  | dit h a => exact ⟨_, rfl, .inr ⟨rfl, _, _, ok _ _ h, a⟩⟩
  | non => exact .non
  | bl b => exact .bl b
  | int i => exact .int i
  | str x => exact .str x
  | ty n => exact .ty n
  | cls n => exact .cls n
  | ref a => exact .ref a
  | tup h a => exact .tup h a
  | exc h => exact .exc h
theorem RpR.cases' (P : Prop) (h : RpR B F H v d) (h1 : Rp B F v d → P) (h2 : ∀ ds a vs, d = .lst ds → v = .ref a → SqL B.K H a vs → RpAll B F vs ds → P)
    (h3 : ∀ n fs a dx fv, d = .obj n fs → v = .ref a → H a = some (.ins (B.cl n) dx fv) → RpF B F fv fs → P) (h4 : ∀ t ks a, d = .dic t ks → v = .ref a → DicO B F a t ks (H a) → P) : P := by
  cases d with
  | lst ds => obtain ⟨a, vs, e1, e2, e3⟩ := h; exact h2 ds a vs rfl e1 e2 e3
  | obj C fs => obtain ⟨a, dx, vs, e1, e2, e3⟩ := h; exact h3 C fs a dx vs rfl e1 e2 e3
  | dic t ks => obtain ⟨a, e1, e2⟩ := h; exact h4 t ks a rfl e1 e2
  | non => exact h1 h
  | bl _ => exact h1 h
  | int _ => exact h1 h
  | str _ => exact h1 h
  | ty _ => exact h1 h
  | cls _ => exact h1 h
  | ref _ => exact h1 h
  | tup _ => exact h1 h
  | exc _ => exact h1 h
theorem DicO.ex {a : Addr} {t : Bool} {ks : List (D × D)} (h : DicO B F a t ks (H a)) (e : Ex H H') : DicO B F a t ks (H' a) := by
  rcases h with ⟨h0, kv, ob, h1, h2⟩ | ⟨h0, xs, ob, h1, h2⟩
  · exact .inl ⟨h0, kv, ob, e _ _ h1, h2⟩
  · exact .inr ⟨h0, xs, ob, e _ _ h1, h2⟩
theorem RpR.mono (h : RpR B F H v d) (f : Ex F F') (ok : Ex F' H') (e : Ex H H') : RpR B F' H' v d :=
  h.cases' _ (fun h => (h.mono f).r ok) (fun ds a vs e0 e1 e2 e3 => by subst e0; exact ⟨a, vs, e1, Evl.ex_l e e2, e3.mono f⟩)
    (fun n fs a dx fv e0 e1 e2 e3 => by subst e0; exact ⟨a, dx, fv, e1, e _ _ e2, e3.mono f⟩) fun t ks a e0 e1 e2 => by subst e0; exact ⟨a, e1, (e2.mono f).ex e⟩
theorem RpR.le {W W' : Wd} (h : RpR B W.F W.H v d) (le : W.le W') : RpR B W'.F W'.H v d := h.mono le.f W'.ok le.h
theorem Rp.rd {W : Wd} (h : Rp B W.F v d) : RpR B W.F W.H v d := h.r W.ok
theorem Rp.le {W W' : Wd} (h : Rp B W.F v d) (le : W.le W') : Rp B W'.F v d := h.mono le.f
theorem RpR.drf {W : Wd} {M : Mu} {m : Hp} (h : RpR B W.F W.H v d) (k : MOk B W M m) : RpR B W.F (cat W.H m) v (Z.drf M d) := by
  have e := cat_ex W.H m
  cases d with
  | ref a =>
    cases h with
    | ref _ =>
      have q := k.ok a
      show RpR B W.F (cat W.H m) (.ref a) (drfO a (M a))
      cases z : M a with
      | none => exact Rp.ref a
      | some ob =>
        have hn := k.hn z
        rw [z] at q
        cases ob with
        | lst ds => obtain ⟨vs, q1, q2⟩ := q; exact ⟨a, vs, rfl, SqL.of ((cat_none hn).trans q1), q2⟩
        | dic t ks => exact ⟨a, rfl, by rw [cat_none hn]; exact q⟩
        | ins n fs => obtain ⟨dx, fv, q1, q2⟩ := q; exact ⟨a, dx, fv, rfl, (cat_none hn).trans q1, q2⟩
  | non => exact h
  | bl _ => exact h
  | int _ => exact h
  | str _ => exact h
  | ty _ => exact h
  | cls _ => exact h
  | tup _ => exact h
  | exc _ => exact h
  | lst ds => exact RpR.mono h (Ex.refl _) (W.ok.trans e) e
  | obj n ds => exact RpR.mono h (Ex.refl _) (W.ok.trans e) e
  | dic t ks => exact RpR.mono h (Ex.refl _) (W.ok.trans e) e
end
inductive Ent where
  | un
  | dat (d : D)
  | own (ds : List D)
  | dk (t : Bool) (ks : List (D × D))
  | bor (d : D)
def Ent.ownd : Ent → Bool
  | .own _ => true
  | .dk _ _ => true
  | _ => false
def ga : List Ent → Nat → Ent
  | [], _ => .un
  | e :: _, 0 => e
  | _ :: r, n + 1 => ga r n
theorem ga_set : ∀ (ρ : List Ent) (i j : Nat) (e : Ent), ga (ρ.set i e) j = if i = j then (if i < ρ.length then e else .un) else ga ρ j
  | [], i, j, e => by simp [ga]
  | x :: r, 0, 0, e => by simp [ga]
  | x :: r, 0, j + 1, e => by simp [ga]
  | x :: r, i + 1, 0, e => by simp [ga]
  | x :: r, i + 1, j + 1, e => by
    show ga (r.set i e) j = _
    rw [ga_set r i j e]
    simp [ga]
theorem ga_lt : ∀ {ρ : List Ent} {i : Nat}, ga ρ i ≠ .un → i < ρ.length
  | [], i, h => absurd rfl h
  | x :: r, 0, h => by simp
  | x :: r, i + 1, h => by
    have := ga_lt (ρ := r) (i := i) h
    simp; omega
def EntOk (B : Bx) (W0 W : Wd) (σ : L2.St) (i : Nat) (a : Addr) : Ent → Prop
  | .un => True
  | .dat d => ∃ v, σ[i]? = some (some v) ∧ Rp B W.F v d
  | .own ds => ∃ vs, σ[i]? = some (some (.ref a)) ∧ W.H a = some (.lst vs) ∧ W.F a = none ∧ W0.H a = none ∧ RpAll B W.F vs ds
  | .dk t ks => σ[i]? = some (some (.ref a)) ∧ DicO B W.F a t ks (W.H a) ∧ W.F a = none ∧ W0.H a = none
  | .bor d => ∃ v, σ[i]? = some (some v) ∧ (RpR B W.F W0.H v d ∨ Rp B W.F v d)
structure Rel (B : Bx) (W0 W : Wd) (σ : L2.St) (ρ : List Ent) : Prop where
  le : W0.le W
  len : σ.length = ρ.length
  ex : ∃ ad : Nat → Addr, (∀ i j, i ≠ j → (ga ρ i).ownd = true → (ga ρ j).ownd = true → ad i ≠ ad j) ∧ ∀ i, EntOk B W0 W σ i (ad i) (ga ρ i)
section
variable {B : Bx} {W0 W W' : Wd} {σ : L2.St} {ρ : List Ent}
theorem RpR.monoF {F F' H : Hp} {v : V} {d : D} (h : RpR B F H v d) (f : Ex F F') : RpR B F' H v d := by
  cases d with
  | lst ds => obtain ⟨a, vs, h1, h2, h3⟩ := h; exact ⟨a, vs, h1, h2, h3.mono f⟩
  | obj C fs => obtain ⟨a, dx, vs, h1, h2, h3⟩ := h; exact ⟨a, dx, vs, h1, h2, h3.mono f⟩
  | dic t ks => obtain ⟨a, h1, h2⟩ := h; exact ⟨a, h1, h2.mono f⟩
  | non => exact Rp.mono f h
  | bl _ => exact Rp.mono f h
  | int _ => exact Rp.mono f h
  | str _ => exact Rp.mono f h
  | ty _ => exact Rp.mono f h
  | cls _ => exact Rp.mono f h
  | ref _ => exact Rp.mono f h
  | tup _ => exact Rp.mono f h
  | exc _ => exact Rp.mono f h
theorem EntOk.mono (le : W.le W') {i : Nat} {a : Addr} {e : Ent} (h : EntOk B W0 W σ i a e) : EntOk B W0 W' σ i a e := by
  cases e with
  | un => trivial
  | dat d => obtain ⟨v, h1, h2⟩ := h; exact ⟨v, h1, h2.mono le.f⟩
  | own ds =>
    obtain ⟨vs, h1, h2, h3, h4, h5⟩ := h
    exact ⟨vs, h1, le.h _ _ h2, le.n _ (by rw [h2]; exact fun z => by cases z) h3, h4, h5.mono le.f⟩
  | bor d =>
    obtain ⟨v, h1, h2⟩ := h
    exact ⟨v, h1, h2.imp (fun z => z.monoF le.f) fun z => z.mono le.f⟩
  | dk t ks =>
    obtain ⟨h1, h2, h3, h4⟩ := h
    exact ⟨h1, (h2.mono le.f).ex le.h, le.n _ h2.some h3, h4⟩
theorem Rel.mono (h : Rel B W0 W σ ρ) (le : W.le W') : Rel B W0 W' σ ρ := by
  obtain ⟨h1, h2, ad, h3, h4⟩ := h
  exact ⟨h1.trans le, h2, ad, h3, fun i => (h4 i).mono le⟩
theorem EntOk.slot {σ' : L2.St} {i : Nat} {a : Addr} {e : Ent} (h : EntOk B W0 W σ i a e) (q : σ'[i]? = σ[i]?) : EntOk B W0 W σ' i a e := by
  cases e with
  | un => trivial
  | dat d => obtain ⟨v, h1, h2⟩ := h; exact ⟨v, q.trans h1, h2⟩
  | own ds => obtain ⟨vs, h1, h2⟩ := h; exact ⟨vs, q.trans h1, h2⟩
  | bor ds => obtain ⟨b, h1, h2⟩ := h; exact ⟨b, q.trans h1, h2⟩
  | dk t ds => obtain ⟨h1, h2⟩ := h; exact ⟨q.trans h1, h2⟩
theorem EntOk.there {i : Nat} {a : Addr} {e : Ent} (h : EntOk B W0 W σ i a e) (o : e.ownd = true) : W.H a ≠ none := by
  cases e with
  | un => cases o
  | dat d => cases o
  | bor d => cases o
  | own ds => obtain ⟨vs, _, q, _⟩ := h; rw [q]; exact fun z => by cases z
  | dk t ds => obtain ⟨_, q, _⟩ := h; exact q.some
theorem Rel.store (h : Rel B W0 W σ ρ) (le : W.le W') {i : Nat} {v : Option V} {e : Ent} {b : Addr}
    (he : i < ρ.length → EntOk B W0 W' (σ.set i v) i b e) (hb : e.ownd = true → W.H b = none) : Rel B W0 W' (σ.set i v) (ρ.set i e) := by
  obtain ⟨h1, h2, ad, h3, h4⟩ := h
  have old : ∀ j, (ga ρ j).ownd = true → W.H (ad j) ≠ none := fun j hj => (h4 j).there hj
  refine ⟨h1.trans le, by rw [List.length_set, List.length_set, h2], fun j => if j = i then b else ad j, fun j k hjk hj hk => ?_, fun j => ?_⟩
  · rw [ga_set] at hj hk
    dsimp only
    by_cases z1 : j = i
    · have z2 : ¬ k = i := fun z => hjk (z1.trans z.symm)
      rw [if_pos z1, if_neg z2]
      rw [if_pos z1.symm] at hj
      rw [if_neg (Ne.symm z2)] at hk
      split at hj
      · intro z; exact old k hk (by rw [← z]; exact hb hj)
      · cases hj
    · by_cases z2 : k = i
      · rw [if_neg z1, if_pos z2]
        rw [if_pos z2.symm] at hk
        rw [if_neg (Ne.symm z1)] at hj
        split at hk
        · intro z; exact old j hj (by rw [z]; exact hb hk)
        · cases hk
      · rw [if_neg z1, if_neg z2]
        rw [if_neg (Ne.symm z1)] at hj
        rw [if_neg (Ne.symm z2)] at hk
        exact h3 j k hjk hj hk
  · rw [ga_set]
    dsimp only
    by_cases z : i = j
    · subst z
      rw [if_pos rfl, if_pos rfl]
      split
      · rename_i hl; exact he hl
      · trivial
    · rw [if_neg z, if_neg (Ne.symm z)]
      exact ((h4 j).mono le).slot (List.getElem?_set_ne z)
theorem Rel.set (h : Rel B W0 W σ ρ) {i : Nat} {v : V} {d : D} (hv : Rp B W.F v d) : Rel B W0 W (σ.set i (some v)) (ρ.set i (.dat d)) :=
  h.store (b := 0) (Wd.le.refl W) (fun hl => ⟨v, List.getElem?_set_self (by rw [h.len]; exact hl), hv⟩) fun z => by cases z
theorem Rel.unset (h : Rel B W0 W σ ρ) {i : Nat} : Rel B W0 W (σ.set i none) (ρ.set i .un) :=
  h.store (b := 0) (Wd.le.refl W) (fun _ => trivial) fun z => by cases z
theorem Rel.dat (h : Rel B W0 W σ ρ) {i : Nat} {d : D} (e : ga ρ i = .dat d) : ∃ v, σ[i]? = some (some v) ∧ Rp B W.F v d := by
  obtain ⟨_, _, ad, _, h4⟩ := h
  have q := h4 i
  rw [e] at q
  exact q
end
def reH (W0 W1 : Wd) : Hp := fun a => match W0.H a with | some o => some o | none => W1.F a
theorem reH_some {W0 W1 : Wd} {a : Addr} {o : HO} (h : W0.H a = some o) : reH W0 W1 a = some o := by unfold reH; rw [h]
theorem reH_none {W0 W1 : Wd} {a : Addr} (h : W0.H a = none) : reH W0 W1 a = W1.F a := by unfold reH; rw [h]
def Wd.re (W0 W1 : Wd) (le : W0.le W1) : Wd := ⟨W1.F, reH W0 W1, fun a o h => by
  cases q : W0.H a with
  | none => rw [reH_none q]; exact h
  | some o' =>
    rw [reH_some q]
    have e1 := le.h a o' q
    have e2 := W1.ok a o h
    rw [e1] at e2; exact e2⟩
section
variable {B : Bx} {W0 W1 W : Wd} {σ : L2.St} {ρ : List Ent}
theorem Wd.re_le (le : W0.le W1) : (W0.re W1 le).le W1 := ⟨Ex.refl _, fun a o h => by
    have h : reH W0 W1 a = some o := h
    cases q : W0.H a with
    | none => rw [reH_none q] at h; exact W1.ok a o h
    | some o' => rw [reH_some q] at h; cases h; exact le.h a _ q, fun _ _ h => h⟩
theorem Wd.le_re (le : W0.le W1) : Ex W0.H (W0.re W1 le).H := fun a o h => reH_some h
theorem Rel.re (h : Rel B W0 W1 σ ρ) : Rel B (W0.re W1 h.le) W1 σ ρ := by
  refine ⟨Wd.re_le _, h.len, ?_⟩
  obtain ⟨le, _, ad, h3, h4⟩ := h
  refine ⟨ad, h3, fun i => ?_⟩
  have q := h4 i
  have own : ∀ a, W0.H a = none → W1.F a = none → (W0.re W1 le).H a = none := fun a h1 h2 => (reH_none h1).trans h2
  cases z : ga ρ i with
  | un => trivial
  | dat d => rw [z] at q; exact q
  | own ds => rw [z] at q; obtain ⟨vs, q1, q2, q3, q4, q5⟩ := q; exact ⟨vs, q1, q2, q3, own _ q4 q3, q5⟩
  | bor ds =>
    rw [z] at q
    obtain ⟨b, q1, q2⟩ := q
    refine ⟨b, q1, q2.imp (fun z => ?_) id⟩
    exact z.mono (Ex.refl _) (W0.re W1 le).ok (Wd.le_re le)
  | dk t ds => rw [z] at q; obtain ⟨q1, q2, q3, q4⟩ := q; exact ⟨q1, q2, q3, own _ q4 q3⟩
theorem Wd.re_back {le : W0.le W1} (h : (W0.re W1 le).le W) : W0.le W :=
  ⟨le.f.trans h.f, (Wd.le_re le).trans h.h, fun a h1 h2 => h.n a (ex_some (Wd.le_re le) h1) (le.n a h1 h2)⟩
theorem Rel.back {le : W0.le W1} (h : Rel B (W0.re W1 le) W σ ρ) : Rel B W0 W σ ρ := by
  refine ⟨Wd.re_back h.le, h.len, ?_⟩
  obtain ⟨le', _, ad, h3, h4⟩ := h
  refine ⟨ad, h3, fun i => ?_⟩
  have q := h4 i
  have own : ∀ a, (W0.re W1 le).H a = none → W0.H a = none := fun a h1 => ex_none (Wd.le_re le) h1
  have at' : ∀ (a : Addr) (o : HO), (W0.re W1 le).H a = some o → W0.H a = some o ∨ W.F a = some o := fun a o r => by
    cases y : W0.H a with
    | none => exact .inr (le'.f a _ ((reH_none (W1 := W1) y).symm.trans r))
    | some o' => have := (reH_some (W1 := W1) y).symm.trans r; cases this; exact .inl rfl
  cases z : ga ρ i with
  | un => trivial
  | dat d => rw [z] at q; exact q
  | own ds => rw [z] at q; obtain ⟨vs, q1, q2, q3, q4, q5⟩ := q; exact ⟨vs, q1, q2, q3, own _ q4, q5⟩
  | bor d =>
    rw [z] at q
    obtain ⟨b, q1, q2⟩ := q
    refine ⟨b, q1, ?_⟩
    rcases q2 with q2 | q2
    · refine q2.cases' _ (fun h => .inr h) (fun ds a vs e0 e1 e2 e3 => ?_) (fun n fs a dx fv e0 e1 e2 e3 => ?_) fun t ks a e0 e1 e2 => ?_
      · subst e0; subst e1
        have rd : ∀ u, Rd (W0.re W1 le).H a u → Rd W0.H a u ∨ Rd W.F a u := fun u r => by
          rcases r with r | ⟨o, r⟩
          · exact (at' _ _ r).imp .inl .inl
          · exact (at' _ _ r).imp (fun y => .inr ⟨o, y⟩) fun y => .inr ⟨o, y⟩
        rcases e2 with e2 | e2
        · rcases rd _ e2 with y | y
          · exact .inl ⟨a, vs, rfl, .inl y, e3⟩
          · exact .inr (.lst (.inl y) e3)
        · exact .inl ⟨a, vs, rfl, .inr e2, e3⟩
      · subst e0; subst e1
        rcases at' _ _ e2 with y | y
        · exact .inl ⟨a, dx, fv, rfl, y, e3⟩
        · exact .inr (.obj y e3)
      · subst e0; subst e1
        rcases e2 with ⟨rfl, kv, ob, y1, y2⟩ | ⟨rfl, xs, ob, y1, y2⟩
        · rcases at' _ _ y1 with y | y
          · exact .inl ⟨a, rfl, .inl ⟨rfl, kv, ob, y, y2⟩⟩
          · exact .inr (.dic y y2)
        · rcases at' _ _ y1 with y | y
          · exact .inl ⟨a, rfl, .inr ⟨rfl, xs, ob, y, y2⟩⟩
          · exact .inr (.dit y y2)
    · exact .inr q2
  | dk t ds => rw [z] at q; obtain ⟨q1, q2, q3, q4⟩ := q; exact ⟨q1, q2, q3, own _ q4⟩
end
end Z
namespace Z
open PySem PySem.Spec PyProof.Rows L2
open Evl (Ex)
abbrev DTE := List Ent → Mu → (D → Mu → Prop) → (Str → Mu → Prop) → Prop
abbrev DTA := List Ent → Mu → (List D → Mu → Prop) → (Str → Mu → Prop) → Prop
abbrev DTT := List Ent → Mu → (Bool → Mu → Prop) → (Str → Mu → Prop) → Prop
structure DEnds where
  nx : List Ent → Mu → Prop
  rt : D → Mu → Prop
  bk : List Ent → Mu → Prop
  ct : List Ent → Mu → Prop
  ex : Str → List Ent → Mu → Prop
abbrev DTS := DEnds → List Ent → Mu → Prop
abbrev SpM := List D → Mu → (D → Mu → Prop) → (Str → Mu → Prop) → Prop
abbrev SpD := List D → (D → Prop) → (Str → Prop) → Prop
def pur (sp : SpD) : SpM := fun ds M Q E => sp ds (fun d => Q d M) (fun C => E C M)
abbrev OpD := D → D → (D → Prop) → Prop
abbrev bx (X : Cx) : Bx := ⟨X.prog, X.w, X.K, X.mg⟩
theorem cat_q {H m : Hp} {a : Addr} {o : HO} {P : Hp → Prop} (h : P (cat (upd H a o) m)) : P (upd (cat H m) a o) := by rw [cat_upd]; exact h
theorem cat_qm {H m : Hp} {a : Addr} {o : HO} {P : Hp → Prop} (hn : H a = none) (h : P (cat H (upd m a o))) : P (upd (cat H m) a o) := by rw [cat_updm hn]; exact h
inductive ArgsOk (B : Bx) (W : Wd) : List Bool → List V → List D → Prop
  | nil : ArgsOk B W [] [] []
  | dat {ms : List Bool} {v : V} {vs : List V} {d : D} {ds : List D} : Rp B W.F v d → ArgsOk B W ms vs ds → ArgsOk B W (false :: ms) (v :: vs) (d :: ds)
  | bor {ms : List Bool} {v : V} {vs : List V} {d : D} {ds : List D} : RpR B W.F W.H v d → ArgsOk B W ms vs ds → ArgsOk B W (true :: ms) (v :: vs) (d :: ds)
inductive RpRs (B : Bx) (F H : Hp) : List V → List D → Prop
  | nil : RpRs B F H [] []
  | cons {v : V} {vs : List V} {d : D} {ds : List D} : RpR B F H v d → RpRs B F H vs ds → RpRs B F H (v :: vs) (d :: ds)
section
variable {B : Bx} {W W' : Wd}
theorem ArgsOk.length {ms : List Bool} {vs : List V} {ds : List D} (h : ArgsOk B W ms vs ds) : vs.length = ds.length := by
  induction h with
  | nil => rfl
  | dat _ _ ih => exact congrArg (· + 1) ih
  | bor _ _ ih => exact congrArg (· + 1) ih
theorem ArgsOk.all {ms : List Bool} {vs : List V} {ds : List D} (h : ArgsOk B W ms vs ds) (hm : ms.any id = false) : RpAll B W.F vs ds := by
  induction h with
  | nil => exact .nil
  | dat r _ ih => exact .cons r (ih (by simpa using hm))
  | bor r _ ih => simp at hm
theorem ArgsOk.reads {ms : List Bool} {vs : List V} {ds : List D} {M : Mu} {m : Hp} (h : ArgsOk B W ms vs ds) (k : MOk B W M m) : RpRs B W.F (cat W.H m) vs (ds.map (drf M)) := by
  induction h with
  | nil => exact .nil
  | dat r _ ih => exact .cons (r.rd.drf k) ih
  | bor r _ ih => exact .cons (r.drf k) ih
theorem ArgsOk.le {ms : List Bool} {vs : List V} {ds : List D} (h : ArgsOk B W ms vs ds) (le : W.le W') : ArgsOk B W' ms vs ds := by
  induction h with
  | nil => exact .nil
  | dat r _ ih => exact .dat (r.le le) ih
  | bor r _ ih => exact .bor (r.le le) ih
theorem RpRs.length {F H : Hp} {vs : List V} {ds : List D} (h : RpRs B F H vs ds) : vs.length = ds.length := by
  induction h with
  | nil => rfl
  | cons _ _ ih => exact congrArg (· + 1) ih
end
abbrev ExK (B : Bx) (wx : WX) (W : Wd) (σ : L2.St) (Ed : Str → Mu → Prop) : Prop := ∀ C W' m' M', Ed C M' → W.le W' → MOk B W' M' m' → wx (.ref (B.cl C)) none σ (cat W'.H m')
theorem ExK.up {B : Bx} {wx : WX} {W W' : Wd} {σ : L2.St} {Ed : Str → Mu → Prop} (h : ExK B wx W σ Ed) (le : W.le W') : ExK B wx W' σ Ed := fun C W2 m2 M2 q l k => h C W2 m2 M2 q (le.trans l) k
def RfE (B : Bx) (wx : WX) (t : TE) (T : DTE) : Prop := ∀ (W0 W : Wd) (m : Hp) (σ : L2.St) (ρ : List Ent) (M : Mu) (Q : VK) (Qd : D → Mu → Prop) (Ed : Str → Mu → Prop), Rel B W0 W σ ρ → MOk B W M m → T ρ M Qd Ed →
  (∀ d v W' m' M', Qd d M' → W.le W' → MOk B W' M' m' → Rp B W'.F v d → Q v (cat W'.H m')) → ExK B wx W σ Ed → t σ (cat W.H m) Q
def RfR (B : Bx) (wx : WX) (t : TE) (T : DTE) : Prop := ∀ (W0 W : Wd) (m : Hp) (σ : L2.St) (ρ : List Ent) (M : Mu) (Q : VK) (Qd : D → Mu → Prop) (Ed : Str → Mu → Prop), Rel B W0 W σ ρ → MOk B W M m → T ρ M Qd Ed →
  (∀ d v W' m' M', Qd d M' → W.le W' → MOk B W' M' m' → RpR B W'.F W'.H v d → Q v (cat W'.H m')) → ExK B wx W σ Ed → t σ (cat W.H m) Q
def RfM (B : Bx) (wx : WX) (ms : List Bool) (t : TA) (T : DTA) : Prop := ∀ (W0 W : Wd) (m : Hp) (σ : L2.St) (ρ : List Ent) (M : Mu) (Q : List V → Hp → Prop) (Qd : List D → Mu → Prop) (Ed : Str → Mu → Prop), Rel B W0 W σ ρ → MOk B W M m → T ρ M Qd Ed →
  (∀ ds vs W' m' M', Qd ds M' → W.le W' → MOk B W' M' m' → ArgsOk B W' ms vs ds → Q vs (cat W'.H m')) → ExK B wx W σ Ed → t σ (cat W.H m) Q
def RfN (B : Bx) (wx : WX) (t : TE) (T : DTA) : Prop := ∀ (W0 W : Wd) (m : Hp) (σ : L2.St) (ρ : List Ent) (M : Mu) (Q : VK) (Qd : List D → Mu → Prop) (Ed : Str → Mu → Prop), Rel B W0 W σ ρ → MOk B W M m → T ρ M Qd Ed →
  (∀ ds p vs W' m' M', Qd ds M' → W.le W' → MOk B W' M' m' → W.H p = none → W'.H p = some (.lst vs) → W'.F p = none → RpAll B W'.F vs ds → Q (.ref p) (cat W'.H m')) → ExK B wx W σ Ed → t σ (cat W.H m) Q
def RfT (B : Bx) (wx : WX) (t : TT) (T : DTT) : Prop := ∀ (W0 W : Wd) (m : Hp) (σ : L2.St) (ρ : List Ent) (M : Mu) (Q : Bool → Hp → Prop) (Qd : Bool → Mu → Prop) (Ed : Str → Mu → Prop), Rel B W0 W σ ρ → MOk B W M m → T ρ M Qd Ed →
  (∀ b W' m' M', Qd b M' → W.le W' → MOk B W' M' m' → Q b (cat W'.H m')) → ExK B wx W σ Ed → t σ (cat W.H m) Q
def DE (X : Cx) (wx : WX) (e : Expr) (T : DTE) : Prop := ∃ t, PE X e t ∧ RfE (bx X) wx t T
def DR (X : Cx) (wx : WX) (e : Expr) (T : DTE) : Prop := ∃ t, PE X e t ∧ RfR (bx X) wx t T
def DN (X : Cx) (wx : WX) (e : Expr) (T : DTA) : Prop := ∃ t, PE X e t ∧ RfN (bx X) wx t T
def DM (X : Cx) (wx : WX) (ms : List Bool) (es : List Expr) (T : DTA) : Prop := ∃ t, PA X es t ∧ RfM (bx X) wx ms t T
def DT (X : Cx) (wx : WX) (e : Expr) (T : DTT) : Prop := ∃ t, PT X e t ∧ RfT (bx X) wx t T
def DW (X : Cx) (wx : WX) (e : Expr) (T : DTT) : Prop := ∃ t, PW X e t ∧ RfT (bx X) wx t T
section
variable {X : Cx} {wx : WX} {e a b c : Expr} {es : List Expr} {T Ta Tb Tc : DTE} {pos : Pos}
theorem DE.r (h : DE X wx e T) : DR X wx e T := by
  obtain ⟨t, p, r⟩ := h
  exact ⟨t, p, fun W0 W m σ ρ M Q Qd Ed R k h1 h2 h3 => r W0 W m σ ρ M Q Qd Ed R k h1 (fun d v W' m' M' q le k' hv => h2 d v W' m' M' q le k' hv.rd) h3⟩
def dLstOf (T : DTA) : DTE := fun ρ M Q E => T ρ M (fun ds => Q (.lst ds)) E
theorem le_frz {W W' : Wd} {p : Addr} {o : HO} (le : W.le W') (hn : W.H p = none) (hp : W'.H p = some o) : W.le (W'.frz p o hp) := ⟨fun a o z => by
      show upd W'.F p _ a = some o
      rw [upd_ne (fun y => by subst y; rw [W.fnone hn] at z; cases z)]; exact le.f a o z, le.h, fun a z1 z2 => by
      show upd W'.F p _ a = none
      rw [upd_ne (fun y => by subst y; exact z1 hn)]; exact le.n a z1 z2⟩
theorem DN.fz {T : DTA} (h : DN X wx e T) : DE X wx e (dLstOf T) := by
  obtain ⟨t, p, r⟩ := h
  refine ⟨t, p, fun W0 W m σ ρ M Q Qd Ed R k h1 h2 h3 => r W0 W m σ ρ M Q _ Ed R k h1 (fun ds p vs W' m' M' q le k' hn hp hf hv => ?_) h3⟩
  exact h2 (.lst ds) (.ref p) (W'.frz p _ hp) m' M' q (le_frz le hn hp) (k'.frz hp hf) (.lst (SqL.of (upd_same (H := W'.F))) (hv.mono (upd_ex hf)))
def dLstM (T : DTA) : DTE := fun ρ M Q E => T ρ M (fun ds M' => ∀ a, M' a = none → Q (.ref a) (updM M' a (.lst ds))) E
def dVar (i : Nat) : DTE := fun ρ M Q _ => match ga ρ i with | .dat d => Q d M | _ => False
def dVarR (i : Nat) : DTE := fun ρ M Q _ => match ga ρ i with
  | .dat d => Q d M
  | .own ds => Q (.lst ds) M
  | .bor d => Q d M
  | .dk t ks => Q (.dic t ks) M
  | .un => False
def dC (d : D) : DTE := fun _ M Q _ => Q d M
theorem de_var (i : Nat) {x : Str} (hN : X.N[i]? = some x := by rfl) (hv : Vis X.env.scope x := by first | exact Or.inl rfl | exact Or.inr (Or.inl rfl) | exact Or.inr (Or.inr rfl)) (hd : (x == ("__debug__" : Str)) = false := by decide)
    (hcd : (x == ("__classdict__" : Str)) = false := by decide) : DE X wx (.Name x pos) (dVar i) := by
  refine ⟨_, pe_var hN hv hd hcd, fun W0 W m σ ρ M Q Qd Ed R k h1 h2 h3 => ?_⟩
  unfold dVar at h1
  cases z : ga ρ i with
  | dat d =>
    rw [z] at h1
    obtain ⟨v, e, r⟩ := R.dat z
    exact ⟨v, e, h2 d v W m M h1 (Wd.le.refl W) k r⟩
  | _ => rw [z] at h1; exact h1.elim
theorem dr_var (i : Nat) {x : Str} (hN : X.N[i]? = some x := by rfl) (hv : Vis X.env.scope x := by first | exact Or.inl rfl | exact Or.inr (Or.inl rfl) | exact Or.inr (Or.inr rfl)) (hd : (x == ("__debug__" : Str)) = false := by decide)
    (hcd : (x == ("__classdict__" : Str)) = false := by decide) : DR X wx (.Name x pos) (dVarR i) := by
  refine ⟨_, pe_var hN hv hd hcd, fun W0 W m σ ρ M Q Qd Ed R k h1 h2 h3 => ?_⟩
  unfold dVarR at h1
  obtain ⟨le, _, ad, _, h4⟩ := id R
  have q := h4 i
  cases z : ga ρ i with
  | un => rw [z] at h1; exact h1.elim
  | dat d =>
    rw [z] at h1 q
    obtain ⟨v, e, r⟩ := q
    exact ⟨v, e, h2 d v W m M h1 (Wd.le.refl W) k r.rd⟩
  | own ds =>
    rw [z] at h1 q
    obtain ⟨vs, q1, q2, q3, q4, q5⟩ := q
    exact ⟨_, q1, h2 (.lst ds) _ W m M h1 (Wd.le.refl W) k ⟨_, _, rfl, SqL.of q2, q5⟩⟩
  | bor d =>
    rw [z] at h1 q
    obtain ⟨v, q1, q2⟩ := q
    exact ⟨_, q1, h2 d _ W m M h1 (Wd.le.refl W) k (q2.elim (fun y => y.mono (Ex.refl _) W.ok le.h) fun y => y.rd)⟩
  | dk t ks =>
    rw [z] at h1 q
    obtain ⟨q1, q2, q3, q4⟩ := q
    exact ⟨_, q1, h2 (.dic t ks) _ W m M h1 (Wd.le.refl W) k ⟨_, rfl, q2⟩⟩
theorem rf_c {B : Bx} {v : V} {d : D} (h : ∀ F, Rp B F v d) : RfE B wx (tC v) (dC d) := fun W0 W m σ ρ M Q Qd Ed R k h1 h2 h3 => h2 d v W m M h1 (Wd.le.refl W) k (h _)
theorem de_int {i : Int} {j : Nat} : DE X wx (.Constant (.int i) j pos) (dC (.int i)) := ⟨_, pe_int, rf_c fun _ => .int i⟩
theorem de_bl {b : Bool} {j : Nat} : DE X wx (.Constant (.bool b) j pos) (dC (.bl b)) := ⟨_, pe_bl, rf_c fun _ => .bl b⟩
theorem de_non {j : Nat} : DE X wx (.Constant .none j pos) (dC .non) := ⟨_, pe_non, rf_c fun _ => .non⟩
theorem de_str {x : Str} {j : Nat} : DE X wx (.Constant (.str x) j pos) (dC (.str x)) := ⟨_, pe_str, rf_c fun _ => .str x⟩
theorem de_gstr {x z : Str} {t : Tok} (hm : X.mg x = some (.str z t)) (hg : Gl X x := by rfl) (hd : (x == ("__debug__" : Str)) = false := by decide) : DE X wx (.Name x pos) (dC (.str z)) := ⟨_, pe_glob (v := .str z) hg hm ⟨t, rfl⟩ hd, rf_c fun _ => .str z⟩
theorem cl_of {B : Bx} {x : Str} {a : Addr} (h : B.mg x = some (.ref a)) : B.cl x = a := by unfold Bx.cl; rw [h]
theorem de_gcls {x : Str} {a : Addr} (hm : X.mg x = some (.ref a)) (hg : Gl X x := by rfl) (hd : (x == ("__debug__" : Str)) = false := by decide) : DE X wx (.Name x pos) (dC (.cls x)) := ⟨_, pe_glob (v := .ref a) hg hm rfl hd, rf_c fun _ => by
  have e : (bx X).cl x = a := cl_of hm
  have := Rp.cls (B := bx X) (F := ‹Hp›) x
  rw [e] at this
  exact this⟩
theorem de_gty {x : Str} {n : String} (hm : X.mg x = none) (hv : bootBuiltins x = some (.type n) := by decide +kernel) (hg : Gl X x := by rfl) (hn : x ≠ "__name__" := by decide) (hd : (x == ("__debug__" : Str)) = false := by decide) : DE X wx (.Name x pos) (dC (.ty n)) := ⟨_, pe_bltn (v := .ty n) hg hm hv rfl hn hd, rf_c fun _ => .ty n⟩
def dNil : DTA := fun _ M Q _ => Q [] M
def dCons (T : DTE) (R : DTA) : DTA := fun ρ M Q E => T ρ M (fun d M1 => R ρ M1 (fun ds => Q (d :: ds)) E) E
theorem dm_nil : DM X wx [] [] dNil := ⟨_, pa_nil, fun W0 W m σ ρ M Q Qd Ed R k h1 h2 h3 => h2 [] [] W m M h1 (Wd.le.refl W) k .nil⟩
theorem dm_e {ms : List Bool} {R : DTA} (he : DE X wx e T) (hr : DM X wx ms es R) (hs : starEach (e :: es) X.env = (false, eval e X.env) :: starEach es X.env := by rfl) : DM X wx (false :: ms) (e :: es) (dCons T R) := by
  obtain ⟨t, p, r⟩ := he
  obtain ⟨u, p2, r2⟩ := hr
  refine ⟨_, pa_cons p p2 hs, fun W0 W m σ ρ M Q Qd Ed Re k h1 h2 h3 => ?_⟩
  refine r W0 W m σ ρ M _ _ Ed Re k h1 (fun d v W' m' M' q le k' hv => ?_) h3
  refine r2 W0 W' m' σ ρ M' _ _ Ed (Re.mono le) k' q (fun ds vs W'' m'' M'' q2 le2 k'' hvs => ?_) (h3.up le)
  exact h2 (d :: ds) (v :: vs) W'' m'' M'' q2 (le.trans le2) k'' (.dat (hv.mono le2.f) hvs)
theorem dm_r {ms : List Bool} {R : DTA} (he : DR X wx e T) (hr : DM X wx ms es R) (hs : starEach (e :: es) X.env = (false, eval e X.env) :: starEach es X.env := by rfl) : DM X wx (true :: ms) (e :: es) (dCons T R) := by
  obtain ⟨t, p, r⟩ := he
  obtain ⟨u, p2, r2⟩ := hr
  refine ⟨_, pa_cons p p2 hs, fun W0 W m σ ρ M Q Qd Ed Re k h1 h2 h3 => ?_⟩
  refine r W0 W m σ ρ M _ _ Ed Re k h1 (fun d v W' m' M' q le k' hv => ?_) h3
  refine r2 W0 W' m' σ ρ M' _ _ Ed (Re.mono le) k' q (fun ds vs W'' m'' M'' q2 le2 k'' hvs => ?_) (h3.up le)
  exact h2 (d :: ds) (v :: vs) W'' m'' M'' q2 (le.trans le2) k'' (.bor (hv.le le2) hvs)
def dTup (R : DTA) : DTE := fun ρ M Q E => R ρ M (fun ds M' => ds.length ≤ sizeLine ∧ Q (.tup ds) M') E
theorem de_tup {ms : List Bool} {R : DTA} {x1} (h : DM X wx ms es R) (hm : ms.any id = false := by rfl) : DE X wx (.Tuple es x1 pos) (dTup R) := by
  obtain ⟨t, p, r⟩ := h
  refine ⟨_, pe_tup p, fun W0 W m σ ρ M Q Qd Ed Re k h1 h2 h3 => ?_⟩
  refine r W0 W m σ ρ M _ _ Ed Re k h1 (fun ds vs W' m' M' q le k' hv => ⟨by rw [hv.length]; exact q.1, fun pp hp => ?_⟩) h3
  have hp1 := (cat_new hp).1
  exact cat_q (P := Q (.ref pp)) (h2 (.tup ds) (.ref pp) (W'.new pp (.tup vs)) m' M' q.2 (le.trans (W'.le_new hp1)) (k'.new hp) (.tup (SqT.of (upd_same (H := W'.F))) ((hv.all hm).mono (W'.le_new hp1).f)))
def dLst (R : DTA) : DTA := fun ρ M Q E => R ρ M (fun ds M' => ds.length ≤ sizeLine ∧ Q ds M') E
theorem dn_lst {ms : List Bool} {R : DTA} (h : DM X wx ms es R) (hm : ms.any id = false := by rfl) : DN X wx (.List es pos) (dLst R) := by
  obtain ⟨t, p, r⟩ := h
  refine ⟨_, pe_lst p, fun W0 W m σ ρ M Q Qd Ed Re k h1 h2 h3 => ?_⟩
  refine r W0 W m σ ρ M _ _ Ed Re k h1 (fun ds vs W' m' M' q le k' hv => ⟨by rw [hv.length]; exact q.1, fun pp hp => ?_⟩) h3
  have hp1 := (cat_new hp).1
  exact cat_q (P := Q (.ref pp)) (h2 ds pp vs (W'.lay pp (.lst vs) (W'.fnone hp1)) m' M' q.2 (le.trans (W'.le_lay hp1)) (k'.lay hp) (ex_none le.h hp1) upd_same (W'.fnone hp1) (hv.all hm))
def dOp (o : OpD) (a b : DTE) : DTE := fun ρ M Q E => a ρ M (fun x M1 => b ρ M1 (fun y M2 => o (drf M2 x) (drf M2 y) (fun d => Q d M2)) E) E
def RfO (B : Bx) (r : R2) (o : OpD) : Prop := ∀ (W : Wd) (m : Hp) (M : Mu) (x y : V) (dx dy : D) (Q : VK) (Qd : D → Prop), MOk B W M m → RpR B W.F (cat W.H m) x dx → RpR B W.F (cat W.H m) y dy → o dx dy Qd →
  (∀ d v W', Qd d → W.le W' → MOk B W' M m → Rp B W'.F v d → Q v (cat W'.H m)) → r x y (cat W.H m) Q
theorem rf_op {B : Bx} {ta tb : TE} {r : R2} {o : OpD} (ha : RfR B wx ta Ta) (hb : RfR B wx tb Tb) (hr : RfO B r o) : RfE B wx (tOp r ta tb) (dOp o Ta Tb) := fun W0 W m σ ρ M Q Qd Ed R k h1 h2 h3 => by
  refine ha W0 W m σ ρ M _ _ Ed R k h1 (fun d v W' m' M' q le k' hv => ?_) h3
  refine hb W0 W' m' σ ρ M' _ _ Ed (R.mono le) k' q (fun d2 v2 W'' m'' M'' q2 le2 k'' hv2 => ?_) (h3.up le)
  exact hr W'' m'' M'' v v2 _ _ Q _ k'' ((hv.le le2).drf k'') (hv2.drf k'') q2 fun d3 v3 W3 q3 le3 k3 hv3 => h2 d3 v3 W3 m'' M'' q3 ((le.trans le2).trans le3) k3 hv3
theorem de_op {op : Operator} {r : R2} {o : OpD} (ho : OpR X (binaryOp op) r) (hr : RfO (bx X) r o) (ha : DR X wx a Ta) (hb : DR X wx b Tb) : DE X wx (.BinOp a op b pos) (dOp o Ta Tb) := by
  obtain ⟨ta, pa, ra⟩ := ha
  obtain ⟨tb, pb, rb⟩ := hb
  exact ⟨_, pe_op ho pa pb, rf_op ra rb hr⟩
def rCatS (K : PySem.W.Frag) : R2 := fun x y H Q => ∃ l b xs zs, x = .ref l ∧ y = .ref b ∧ SqL K H l xs ∧ SqL K H b zs ∧ xs.length + zs.length ≤ sizeLine ∧ ∀ p, H p = none → Q (.ref p) (upd H p (.lst (xs ++ zs)))
theorem op_catS : OpR X (binaryOp .Add) (rCatS X.K) := by
  intro pins s σ H x y v u Q I rx ry h
  obtain ⟨l, b, xs, zs, rfl, rfl, hH, hB, hz, q⟩ := h
  cases rx
  cases ry
  obtain ⟨its, r, pl, z⟩ := I.list hH
  obtain ⟨its2, r2, pl2, z2⟩ := I.list hB
  have hl := r.length
  have hl2 := r2.length
  obtain ⟨⟨cls, dd, data, sl⟩, ho, hc, n, hd⟩ := id pl.isList
  obtain ⟨⟨cls2, dd2, data2, sl2⟩, ho2, hc2, n2, hd2⟩ := id pl2.isList
  simp only at hc hd hc2 hd2
  subst hc hd hc2 hd2
  refine concat_meets ⟨_, ho, rfl⟩ ⟨_, ho2, rfl⟩ noFill_list_add seq_list_add PySem.F.slot_list_add PySem.F.entry_list_add (PySem.F.args_list_add_2 _ _) (list_addW l b its.toArray its2.toArray n n2 dd dd2 sl sl2 (by simp; omega)) ⟨ho, ho2, ?_⟩
  have ea : its.toArray ++ its2.toArray = (its ++ its2).toArray := by simp
  rw [ea]
  exact ⟨.ref _, _, I.lnew (t' := s.toks) (r.append r2) (by rw [List.length_append]; omega), rfl, q _ I.fresh⟩
def oAdd (x y : D) (Q : D → Prop) : Prop := match x, y with
  | .int i, .int j => Q (.int (i + j))
  | .str x, .str y => x.length + y.length ≤ sizeLine ∧ Q (.str (x ++ y))
  | .tup x, .tup y => x.length + y.length ≤ sizeLine ∧ Q (.tup (x ++ y))
  | .lst x, .lst y => x.length + y.length ≤ sizeLine ∧ Q (.lst (x ++ y))
  | _, _ => False
theorem rAll_nil {B : Bx} {F : Hp} {xs : List V} {ds : List D} (h : RpAll B F xs ds) : xs = [] ↔ ds = [] := by
  cases h <;> simp
theorem newT {B : Bx} {W : Wd} {M : Mu} {m : Hp} {p : Addr} {vs : List V} {ds : List D} {Q : VK} (k : MOk B W M m) (hp : cat W.H m p = none) (hv : RpAll B W.F vs ds)
    (h : ∀ W', W.le W' → MOk B W' M m → Rp B W'.F (.ref p) (.tup ds) → Q (.ref p) (cat W'.H m)) : Q (.ref p) (upd (cat W.H m) p (.tup vs)) :=
  cat_q (P := Q (.ref p)) (h (W.new p _) (W.le_new (cat_new hp).1) (k.new hp) (.tup (SqT.of (upd_same (H := W.F))) (hv.mono (W.le_new (cat_new hp).1).f)))
theorem newL {B : Bx} {W : Wd} {M : Mu} {m : Hp} {p : Addr} {vs : List V} {ds : List D} {Q : VK} (k : MOk B W M m) (hp : cat W.H m p = none) (hv : RpAll B W.F vs ds)
    (h : ∀ W', W.le W' → MOk B W' M m → Rp B W'.F (.ref p) (.lst ds) → Q (.ref p) (cat W'.H m)) : Q (.ref p) (upd (cat W.H m) p (.lst vs)) :=
  cat_q (P := Q (.ref p)) (h (W.new p _) (W.le_new (cat_new hp).1) (k.new hp) (.lst (SqL.of (upd_same (H := W.F))) (hv.mono (W.le_new (cat_new hp).1).f)))
theorem newO {B : Bx} {W W1 : Wd} {M : Mu} {m : Hp} {p : Addr} {vs : List V} {ds : List D} {Q : VK} (le : W1.le W) (k : MOk B W M m) (hp : cat W.H m p = none) (hv : RpAll B W.F vs ds)
    (h : ∀ W', W1.le W' → MOk B W' M m → W1.H p = none → W'.H p = some (.lst vs) → W'.F p = none → RpAll B W'.F vs ds → Q (.ref p) (cat W'.H m)) : Q (.ref p) (upd (cat W.H m) p (.lst vs)) :=
  have hp1 := (cat_new hp).1
  cat_q (P := Q (.ref p)) (h (W.lay p _ (W.fnone hp1)) (le.trans (W.le_lay hp1)) (k.lay hp) (ex_none le.h hp1) upd_same (W.fnone hp1) hv)
theorem rf_add {B : Bx} : RfO B (fun x y H Q => rI0 (fun i j => .int (i + j)) x y H Q ∨ (∃ i j, x = .str i ∧ y = .str j ∧ i.length + j.length ≤ sizeLine ∧ Q (.str (i ++ j)) H) ∨ rCatA B.K x y H Q ∨ rCatS B.K x y H Q) oAdd := by
  intro W m M x y dx dy Q Qd mk rx ry h k
  have ok := W.ok.trans (cat_ex W.H m)
  cases dx with
  | int i =>
    cases dy with
    | int j => cases rx; cases ry; exact .inl ⟨i, j, rfl, rfl, k _ _ W h (Wd.le.refl W) mk (.int _)⟩
    | _ => exact h.elim
  | str i =>
    cases dy with
    | str j => cases rx; cases ry; exact .inr (.inl ⟨i, j, rfl, rfl, h.1, k _ _ W h.2 (Wd.le.refl W) mk (.str _)⟩)
    | _ => exact h.elim
  | tup xs =>
    cases dy with
    | tup ys =>
      cases rx with
      | tup hx ax =>
        rename_i a vs
        cases ry with
        | tup hy ay =>
          rename_i b us
          refine .inr (.inr (.inl ⟨a, b, vs, us, rfl, rfl, Evl.ex_t ok hx, Evl.ex_t ok hy, by rw [ax.length, ay.length]; exact h.1, fun z => ?_, fun z1 z2 => ?_, fun z1 z2 p hp => ?_⟩))
          · have e := (rAll_nil ax).mp z
            subst e
            exact k _ _ W h.2 (Wd.le.refl W) mk (.tup hy ay)
          · have e := (rAll_nil ay).mp z2
            subst e
            have q := h.2
            rw [List.append_nil] at q
            exact k _ _ W q (Wd.le.refl W) mk (.tup hx ax)
          · exact newT mk hp (ax.append ay) fun W' le mk' r => k _ _ W' h.2 le mk' r
    | _ => exact h.elim
  | lst xs =>
    cases dy with
    | lst ys =>
      obtain ⟨a1, vs1, rfl, s1, r1⟩ := rx
      obtain ⟨a2, vs2, rfl, s2, r2⟩ := ry
      exact .inr (.inr (.inr ⟨a1, a2, vs1, vs2, rfl, rfl, s1, s2, by rw [r1.length, r2.length]; exact h.1, fun p hp => newL mk hp (r1.append r2) fun W' le mk' r => k _ _ W' h.2 le mk' r⟩))
    | _ => exact h.elim
  | _ => exact h.elim
theorem de_add (ha : DR X wx a Ta) (hb : DR X wx b Tb) : DE X wx (.BinOp a .Add b pos) (dOp oAdd Ta Tb) := de_op (op_add.or (op_add_str.or (op_catA.or op_catS))) rf_add ha hb
def oSub (x y : D) (Q : D → Prop) : Prop := match x, y with
  | .int i, .int j => Q (.int (i - j))
  | _, _ => False
theorem rf_int0 {B : Bx} {g : Int → Int → V} {gd : Int → Int → D} {o : OpD} (hg : ∀ i j F, Rp B F (g i j) (gd i j)) (ho : ∀ x y Q, o x y Q → ∃ i j, x = .int i ∧ y = .int j ∧ Q (gd i j)) : RfO B (rI0 g) o := by
  intro W m M x y dx dy Q Qd mk rx ry h k
  obtain ⟨i, j, rfl, rfl, q⟩ := ho _ _ _ h
  cases rx
  cases ry
  exact ⟨i, j, rfl, rfl, k _ _ W q (Wd.le.refl W) mk (hg i j _)⟩
theorem rf_intC {B : Bx} {C : Int → Int → Prop} {g : Int → Int → V} {gd : Int → Int → D} {o : OpD} (hg : ∀ i j F, Rp B F (g i j) (gd i j)) (ho : ∀ x y Q, o x y Q → ∃ i j, x = .int i ∧ y = .int j ∧ C i j ∧ Q (gd i j)) : RfO B (rI C g) o := by
  intro W m M x y dx dy Q Qd mk rx ry h k
  obtain ⟨i, j, rfl, rfl, c, q⟩ := ho _ _ _ h
  cases rx
  cases ry
  exact ⟨i, j, rfl, rfl, c, k _ _ W q (Wd.le.refl W) mk (hg i j _)⟩
theorem de_sub (ha : DR X wx a Ta) (hb : DR X wx b Tb) : DE X wx (.BinOp a .Sub b pos) (dOp oSub Ta Tb) :=
  de_op op_sub (rf_int0 (gd := fun i j => .int (i - j)) (fun _ _ _ => .int _) fun x y Q h => by
    unfold oSub at h
    split at h
    · exact ⟨_, _, rfl, rfl, h⟩
    · exact h.elim) ha hb
def Sm (i : Int) : Prop := i.natAbs < 2 ^ 9000
theorem Sm.log {i : Int} (h : Sm i) : i.natAbs.log2 < 9000 := PySem.Flt.log2_lt_of (by decide) h
def oMul (x y : D) (Q : D → Prop) : Prop := match x, y with
  | .int i, .int j => Sm i ∧ Sm j ∧ Q (.int (i * j))
  | _, _ => False
theorem op_fdivA : OpR X (binaryOp .FloorDiv) (rI (fun _ j => j ≠ 0 ∧ Sm j) fun i j => .int (i.fdiv j)) := opI fun i j _ _ _ _ _ hc q => floordiv_int hc.1 q (.inl (PyProof.noPylong_of_log2 hc.2.log))
def oFdiv (x y : D) (Q : D → Prop) : Prop := match x, y with
  | .int i, .int j => j ≠ 0 ∧ Sm j ∧ Q (.int (i.fdiv j))
  | _, _ => False
theorem de_fdiv (ha : DR X wx a Ta) (hb : DR X wx b Tb) : DE X wx (.BinOp a .FloorDiv b pos) (dOp oFdiv Ta Tb) :=
  de_op op_fdivA (rf_intC (gd := fun i j => .int (i.fdiv j)) (fun _ _ _ => .int _) fun x y Q h => by
    unfold oFdiv at h
    split at h
    · exact ⟨_, _, rfl, rfl, ⟨h.1, h.2.1⟩, h.2.2⟩
    · exact h.elim) ha hb
def oMod (x y : D) (Q : D → Prop) : Prop := match x, y with
  | .int i, .int j => j ≠ 0 ∧ Q (.int (i.fmod j))
  | _, _ => False
theorem de_mod (ha : DR X wx a Ta) (hb : DR X wx b Tb) : DE X wx (.BinOp a .Mod b pos) (dOp oMod Ta Tb) :=
  de_op op_modN (rf_intC (gd := fun i j => .int (i.fmod j)) (fun _ _ _ => .int _) fun x y Q h => by
    unfold oMod at h
    split at h
    · exact ⟨_, _, rfl, rfl, h.1, h.2⟩
    · exact h.elim) ha hb
def oPow (x y : D) (Q : D → Prop) : Prop := match x, y with
  | .int i, .int j => CPow i j ∧ Q (.int (i ^ j.toNat))
  | _, _ => False
def dNeg (T : DTE) : DTE := fun ρ M Q E => T ρ M (fun x M' => match x with | .int i => Q (.int (-i)) M' | _ => False) E
def oCat (x y : D) (Q : List D → Prop) : Prop := match x, y with
  | .lst xs, .lst ys => xs.length + ys.length ≤ sizeLine ∧ Q (xs ++ ys)
  | _, _ => False
def dCat (a b : DTE) : DTA := fun ρ M Q E => a ρ M (fun x M1 => b ρ M1 (fun y M2 => oCat (drf M2 x) (drf M2 y) fun ds => Q ds M2) E) E
end
end Z
namespace Z
open PySem PySem.Spec PyProof.Rows L2
open Evl (Ex)
def getK (ks : List (D × D)) (k : D) : Option D := (ks.find? fun p => decide (nk p.1 = nk k)).map (·.2)
def putG (ks : List (D × D)) (k v : D) : List (D × D) := if (getK ks k).isSome = true then ks.map (fun p => if nk p.1 = nk k then (p.1, v) else p) else ks ++ [(k, v)]
def kOkB (t : Bool) (k : D) : Bool := match t, k with
  | false, .int _ => true
  | false, .str _ => true
  | true, .tup xs => (match nk (.tup xs) with | some n => decide (n.depth ≤ 8) | none => false)
  | _, _ => false
theorem kOk_f {k : D} (h : kOkB false k = true) : ∃ q : Key, k = keyD q := by
  cases k <;> first | (cases h; done) | skip
  · exact ⟨.inl _, rfl⟩
  · exact ⟨.inr _, rfl⟩
theorem kOk_t {k : D} (h : kOkB true k = true) : ∃ xs n, k = .tup xs ∧ nk k = some n ∧ n.depth ≤ 8 := by
  cases k <;> first | (cases h; done) | skip
  rename_i xs
  have h : (match nk (.tup xs) with | some n => decide (n.depth ≤ 8) | none => false) = true := h
  cases z : nk (.tup xs) with
  | none => rw [z] at h; cases h
  | some n => rw [z] at h; exact ⟨xs, n, rfl, rfl, of_decide_eq_true h⟩
theorem nk_key : ∀ k : Key, nk (keyD k) = some (match k with | .inl i => .num i | .inr x => .text x)
  | .inl _ => by simp [keyD, nk]
  | .inr _ => by simp [keyD, nk]
theorem nk_key_inj {a b : Key} : nk (keyD a) = nk (keyD b) ↔ a = b := by
  rw [nk_key, nk_key]
  cases a <;> cases b <;> simp
theorem getK_pos {p : D × D} {r : List (D × D)} {k : D} (e : nk p.1 = nk k) : getK (p :: r) k = some p.2 := by simp [getK, List.find?_cons, e]
theorem getK_neg {p : D × D} {r : List (D × D)} {k : D} (e : ¬ nk p.1 = nk k) : getK (p :: r) k = getK r k := by simp [getK, List.find?_cons, e]
section
variable {B : Bx} {F H : Hp}
theorem rp_key {v : V} {k : Key} (h : Rp B F v (keyD k)) : v = kV k := by
  cases k with
  | inl i => cases h; rfl
  | inr x => cases h; rfl
theorem RpK.get : ∀ {kv : List (Key × V)} {ks : List (D × D)}, RpK B F kv ks → ∀ k : Key, (valV kv k = none ∧ getK ks (keyD k) = none) ∨ ∃ v d, valV kv k = some v ∧ getK ks (keyD k) = some d ∧ Rp B F v d
  | _, _, .nil, _ => .inl ⟨rfl, rfl⟩
  | _, _, .cons (k := k0) h t, k => by
    by_cases e : k0 = k
    · exact .inr ⟨_, _, valV_pos (p := (k0, _)) e, getK_pos (p := (keyD k0, _)) (by rw [e]), h⟩
    · rw [valV_neg (p := (k0, _)) e, getK_neg (p := (keyD k0, _)) (fun z => e (nk_key_inj.mp z))]
      exact RpK.get t k
theorem RpK.len : ∀ {kv : List (Key × V)} {ks : List (D × D)}, RpK B F kv ks → kv.length = ks.length
  | _, _, .nil => rfl
  | _, _, .cons _ t => congrArg (· + 1) t.len
theorem RpK.repl {v : V} {d : D} (r : Rp B F v d) (k : Key) : ∀ {kv : List (Key × V)} {ks : List (D × D)}, RpK B F kv ks → RpK B F (kv.map fun p => if p.1 = k then (p.1, v) else p) (ks.map fun p => if nk p.1 = nk (keyD k) then (p.1, d) else p)
  | _, _, .nil => .nil
  | _, _, .cons (k := k0) h t => by
    rw [List.map_cons, List.map_cons]
    by_cases e : k0 = k
    · rw [if_pos e, if_pos (by rw [e])]
      exact .cons r (RpK.repl r k t)
    · rw [if_neg e, if_neg (fun z => e (nk_key_inj.mp z))]
      exact .cons h (RpK.repl r k t)
theorem RpK.snoc {v : V} {d : D} (r : Rp B F v d) (k : Key) : ∀ {kv : List (Key × V)} {ks : List (D × D)}, RpK B F kv ks → RpK B F (kv ++ [(k, v)]) (ks ++ [(keyD k, d)])
  | _, _, .nil => .cons r .nil
  | _, _, .cons h t => .cons h (RpK.snoc r k t)
theorem RpK.put {v : V} {d : D} (r : Rp B F v d) (k : Key) {kv : List (Key × V)} {ks : List (D × D)} (h : RpK B F kv ks) : RpK B F (putK kv k v) (putG ks (keyD k) d) := by
  unfold putK putG
  rw [valV_any]
  rcases h.get k with ⟨e1, e2⟩ | ⟨v0, d0, e1, e2, _⟩
  · rw [e1, e2]; exact RpK.snoc r k h
  · rw [e1, e2]; exact RpK.repl r k h
theorem RpX.get : ∀ {xs : List (NestedKey × Addr × Value)} {ks : List (D × D)}, RpX B F xs ks → ∀ {k : D} {n : NestedKey}, nk k = some n → (atKey xs n = none ∧ getK ks k = none) ∨ ∃ b u v d, atKey xs n = some (b, u) ∧ RelV v u ∧ Rp B F v d ∧ getK ks k = some d
  | _, _, .nil, _, _, _ => .inl ⟨rfl, rfl⟩
  | _, _, .cons (k := k0) (a := a) (u := u) (v := v) (c := c) (d := d) hc hn h8 hr h t, k, n, e => by
    by_cases z : k0 = n
    · refine .inr ⟨a, u, v, d, ?_, hr, h, getK_pos (p := (c, d)) (by rw [e, hn, z])⟩
      simp [atKey, List.find?_cons, z]
    · have z2 : ¬ nk c = nk k := fun y => by rw [hn, e] at y; cases y; exact z rfl
      rw [getK_neg (p := (c, d)) z2]
      have : ∀ r, atKey ((k0, a, u) :: r) n = atKey r n := fun r => by simp [atKey, List.find?_cons, z]
      rw [this]
      exact RpX.get t e
theorem RpX.len : ∀ {xs : List (NestedKey × Addr × Value)} {ks : List (D × D)}, RpX B F xs ks → xs.length = ks.length
  | _, _, .nil => rfl
  | _, _, .cons _ _ _ _ _ t => congrArg (· + 1) t.len
theorem RpX.repl {v : V} {u : Value} {d k : D} {n : NestedKey} (r : Rp B F v d) (rv : RelV v u) (e : nk k = some n) : ∀ {xs : List (NestedKey × Addr × Value)} {ks : List (D × D)}, RpX B F xs ks → RpX B F (xs.map (putAt n u)) (ks.map fun p => if nk p.1 = nk k then (p.1, d) else p)
  | _, _, .nil => .nil
  | _, _, .cons (k := k0) (c := c) hc hn h8 hr h t => by
    rw [List.map_cons, List.map_cons]
    unfold putAt
    by_cases z : k0 = n
    · rw [if_pos z, if_pos (by rw [hn, e, z])]
      exact .cons hc hn h8 rv r (RpX.repl r rv e t)
    · rw [if_neg z, if_neg (fun y => by rw [hn, e] at y; cases y; exact z rfl)]
      exact .cons hc hn h8 hr h (RpX.repl r rv e t)
theorem RpX.snoc {v : V} {u : Value} {b : Addr} {d k : D} {n : NestedKey} (r : Rp B F v d) (rv : RelV v u) (hb : Rp B F (.ref b) k) (e : nk k = some n) (h8 : n.depth ≤ 8) : ∀ {xs : List (NestedKey × Addr × Value)} {ks : List (D × D)}, RpX B F xs ks → RpX B F (xs ++ [(n, b, u)]) (ks ++ [(k, d)])
  | _, _, .nil => .cons hb e h8 rv r .nil
  | _, _, .cons hc hn h8' hr h t => .cons hc hn h8' hr h (RpX.snoc r rv hb e h8 t)
theorem RpK.at : ∀ {kv : List (Key × V)} {ks : List (D × D)} {i : Nat} {p : D × D}, RpK B F kv ks → ks[i]? = some p → ∃ k v, kv[i]? = some (k, v) ∧ p.1 = keyD k
  | _, _, _, _, .nil, e => by simp at e
  | _, _, 0, _, .cons (k := k0) (v := v) h t, e => by simp at e; subst e; exact ⟨k0, v, rfl, rfl⟩
  | _, _, i + 1, p, .cons h t, e => by
    obtain ⟨k, v, h1, h2⟩ := RpK.at (i := i) (p := p) t (by simpa using e)
    exact ⟨k, v, by simpa using h1, h2⟩
theorem RpX.at : ∀ {xs : List (NestedKey × Addr × Value)} {ks : List (D × D)} {i : Nat} {p : D × D}, RpX B F xs ks → ks[i]? = some p → ∃ x, xs[i]? = some x ∧ Rp B F (.ref x.2.1) p.1
  | _, _, _, _, .nil, e => by simp at e
  | _, _, 0, _, .cons hc hn h8 hr h t, e => by simp at e; subst e; exact ⟨_, rfl, hc⟩
  | _, _, i + 1, p, .cons hc hn h8 hr h t, e => by
    obtain ⟨x, h1, h2⟩ := RpX.at (i := i) (p := p) t (by simpa using e)
    exact ⟨x, by simpa using h1, h2⟩
theorem RpX.put {v : V} {u : Value} {b : Addr} {d k : D} {n : NestedKey} (r : Rp B F v d) (rv : RelV v u) (hb : Rp B F (.ref b) k) (e : nk k = some n) (h8 : n.depth ≤ 8) {xs : List (NestedKey × Addr × Value)} {ks : List (D × D)} (h : RpX B F xs ks) : RpX B F (storedH xs n b u) (putG ks k d) := by
  unfold putG
  rcases h.get e with ⟨e1, e2⟩ | ⟨b0, u0, v0, d0, e1, _, _, e2⟩
  · rw [storedH_new e1, e2]; exact RpX.snoc r rv hb e h8 h
  · rw [storedH_old e1, e2]; exact RpX.repl r rv e h
end
section
variable {X : Cx} {F H : Hp} {pins : List (Addr × Obj)} {σ : L2.St} {s : Shared}
mutual
theorem Rp.nst (I : Inv X pins σ H s) (ex : Ex F H) : ∀ {v : V} {d : D}, Rp (bx X) F v d → ∀ {k : NestedKey} {u : Value}, nk d = some k → RelV v u → NestedIs s.heap k u
  | _, _, .non, _, _, e, r => by simp only [nk] at e; cases e; cases r; exact .none
  | _, _, .bl b, _, _, e, r => by simp only [nk] at e; cases e; cases r; exact .bool (by cases b <;> rfl)
  | _, _, .int i, _, _, e, r => by simp only [nk] at e; cases e; obtain ⟨t, rfl⟩ := r; exact .int _ _
  | _, _, .str x, _, _, e, r => by simp only [nk] at e; cases e; obtain ⟨t, rfl⟩ := r; exact .text _ _
  | _, _, .tup (ds := ds) h a, k, u, e, r => by
    simp only [nk] at e
    obtain ⟨ks, e1, rfl⟩ := Option.map_eq_some_iff.mp e
    cases r
    obtain ⟨its, rv, ⟨o, ho, hc, n, hd⟩, _⟩ := I.tuple (Evl.ex_t ex h)
    exact .tup ho hc hd (RpAll.nst I ex a e1 rv)
  | _, _, .ty n, _, _, e, _ => by simp [nk] at e
  | _, _, .cls n, _, _, e, _ => by simp [nk] at e
  | _, _, .ref n, _, _, e, _ => by simp [nk] at e
  | _, _, .lst _ _, _, _, e, _ => by simp [nk] at e
  | _, _, .obj _ _, _, _, e, _ => by simp [nk] at e
  | _, _, .exc _, _, _, e, _ => by simp [nk] at e
  | _, _, .dic _ _, _, _, e, _ => by simp [nk] at e
  | _, _, .dit _ _, _, _, e, _ => by simp [nk] at e
theorem RpAll.nst (I : Inv X pins σ H s) (ex : Ex F H) : ∀ {vs : List V} {ds : List D}, RpAll (bx X) F vs ds → ∀ {ks : List NestedKey} {us : List Value}, nks ds = some ks → Vals vs us → NestedAll s.heap ks us
  | _, _, .nil, _, _, e, r => by simp only [nks] at e; cases e; cases r; exact .nil
  | _, _, .cons (d := d) (ds := ds) h t, ks, us, e, r => by
    simp only [nks] at e
    cases z1 : nk d with
    | none => rw [z1] at e; cases e
    | some k0 =>
      cases z2 : nks ds with
      | none => rw [z1, z2] at e; cases e
      | some ks0 =>
        rw [z1, z2] at e
        cases e
        cases r with
        | cons r1 r2 => exact .cons (Rp.nst I ex h z1 r1) (RpAll.nst I ex t z2 r2)
end
theorem dk_at {a : Addr} {o : Obj} {kv : List (Key × V)} (I : Inv X pins σ H s) (h : H a = some (.ext (DkAt (bx X) a o kv))) : DkAt (bx X) a o kv s.heap := (I.hok a _ h).1
theorem RpX.keys (I : Inv X pins σ H s) (ex : Ex F H) : ∀ {xs : List (NestedKey × Addr × Value)} {ks : List (D × D)}, RpX (bx X) F xs ks → ∀ x ∈ xs, (nestedKind X.prog X.w).is s.heap x.1 x.2.1
  | _, _, .nil, _, h => by simp at h
  | _, _, .cons hc hn h8 hr h t, x, hx => by
    rcases List.mem_cons.mp hx with rfl | hx
    · exact ⟨Rp.nst I ex hc hn rfl, h8⟩
    · exact RpX.keys I ex t x hx
theorem raw_at {a : Addr} {o : Obj} {xs : List (NestedKey × Addr × Value)} {ks : List (D × D)} (I : Inv X pins σ H s) (ex : Ex F H) (h : H a = some (.ext (RawD (bx X) a o xs))) (r : RpX (bx X) F xs ks) :
    s.heap.DictOfH (nestedKind X.prog X.w) a xs ∧ (a == sysModules) = false ∧ xs.length ≤ sizeLine ∧ s.heap.get? a = some o := by
  obtain ⟨h1, h2, h3, h4, h5, es, ep, h6, h7⟩ := (I.hok a _ h).1
  exact ⟨⟨o, es, ep, h1, h4, h6, h7, RpX.keys I ex r, h5⟩, h3, h2, h1⟩
theorem roomN {A : Around} {k : Nat} (hr : Room k A) : (nestedKind X.prog X.w).room A.in1 := by
  have := hr.units
  show A.in1.units + 8 < cLine
  have e : A.in1.units = A.units + 1 := rfl
  omega
end
section
variable {X : Cx} {F H : Hp} {pins : List (Addr × Obj)} {σ : L2.St} {s : Shared} {A : Around} {E : Value → Shared → Prop} {a : Addr} {t : Bool} {ks : List (D × D)} {y v : V} {k d : D} {u r : Value} {j : Nat}
theorem dx_in {Q : Value → Shared → Prop} (hr : Room j A) (I : Inv X pins σ H s) (ex : Ex F H) (hd : DicO (bx X) F a t ks (H a)) (hk : Rp (bx X) F y k) (ko : kOkB t k = true) (ry : RelV y u) (h : ∀ s', Inv X pins σ H s' → Q (.bool (getK ks k).isSome) s') :
    wpAny (model X.prog X.w) A (compareOp .In u (.ref a)) Q E s := by
  rcases hd with ⟨rfl, kv, ob, e, rk⟩ | ⟨rfl, xs, ob, e, rk⟩
  · obtain ⟨q, rfl⟩ := kOk_f ko
    have := rp_key hk
    subst this
    obtain ⟨_, z, hs, vs, rel, dd⟩ := dk_at I e
    refine wpAny_in_of (kV_is ry) hs dd.mapOf ?_
    rw [← (rel.val q).isSome_eq]
    have e2 : (valV kv q).isSome = (getK ks (keyD q)).isSome := by rcases rk.get q with ⟨e1, e2⟩ | ⟨_, _, e1, e2, _⟩ <;> rw [e1, e2] <;> rfl
    rw [e2]
    exact h _ (I.tok _)
  · obtain ⟨zs, n, rfl, hn, h8⟩ := kOk_t ko
    obtain ⟨dd, hs, z, _⟩ := raw_at I ex e rk
    cases hk with
    | tup h1 h2 =>
      cases ry
      refine wpAny_in_heap (roomN hr) ⟨Rp.nst I ex (.tup h1 h2) hn rfl, h8⟩ hs dd ?_
      have e2 : (atKey xs n).isSome = (getK ks (.tup zs)).isSome := by rcases rk.get hn with ⟨e1, e2⟩ | ⟨_, _, _, _, e1, _, _, e2⟩ <;> rw [e1, e2] <;> rfl
      rw [e2]
      exact h _ (I.tok _)
theorem dx_notIn {Q : Value → Shared → Prop} (hr : Room j A) (I : Inv X pins σ H s) (ex : Ex F H) (hd : DicO (bx X) F a t ks (H a)) (hk : Rp (bx X) F y k) (ko : kOkB t k = true) (ry : RelV y u) (h : ∀ s', Inv X pins σ H s' → Q (.bool (!(getK ks k).isSome)) s') :
    wpAny (model X.prog X.w) A (compareOp .NotIn u (.ref a)) Q E s := by
  rcases hd with ⟨rfl, kv, ob, e, rk⟩ | ⟨rfl, xs, ob, e, rk⟩
  · obtain ⟨q, rfl⟩ := kOk_f ko
    have := rp_key hk
    subst this
    obtain ⟨_, z, hs, vs, rel, dd⟩ := dk_at I e
    refine wpAny_notIn_of (kV_is ry) hs dd.mapOf ?_
    rw [← (rel.val q).isSome_eq]
    have e2 : (valV kv q).isSome = (getK ks (keyD q)).isSome := by rcases rk.get q with ⟨e1, e2⟩ | ⟨_, _, e1, e2, _⟩ <;> rw [e1, e2] <;> rfl
    rw [e2]
    exact h _ (I.tok _)
  · obtain ⟨zs, n, rfl, hn, h8⟩ := kOk_t ko
    obtain ⟨dd, hs, z, _⟩ := raw_at I ex e rk
    cases hk with
    | tup h1 h2 =>
      cases ry
      refine wpAny_notIn_heap (roomN hr) ⟨Rp.nst I ex (.tup h1 h2) hn rfl, h8⟩ hs dd ?_
      have e2 : (atKey xs n).isSome = (getK ks (.tup zs)).isSome := by rcases rk.get hn with ⟨e1, e2⟩ | ⟨_, _, _, _, e1, _, _, e2⟩ <;> rw [e1, e2] <;> rfl
      rw [e2]
      exact h _ (I.tok _)
theorem dx_item {Q : Value → Shared → Prop} (hr : Room j A) (I : Inv X pins σ H s) (ex : Ex F H) (hd : DicO (bx X) F a t ks (H a)) (hk : Rp (bx X) F y k) (ko : kOkB t k = true) (ry : RelV y u) (hg : getK ks k = some d) (h : ∀ v w' s', Inv X pins σ H s' → RelV v w' → Rp (bx X) F v d → Q w' s') :
    wpAny (model X.prog X.w) A (getItem (.ref a) u) Q E s := by
  rcases hd with ⟨rfl, kv, ob, e, rk⟩ | ⟨rfl, xs, ob, e, rk⟩
  · obtain ⟨q, rfl⟩ := kOk_f ko
    have := rp_key hk
    subst this
    obtain ⟨_, z, hs, vs, rel, dd⟩ := dk_at I e
    rcases rk.get q with ⟨e1, e2⟩ | ⟨v, d', e1, e2, rv⟩
    · rw [hg] at e2; cases e2
    · rw [hg] at e2; cases e2
      obtain ⟨w', hw, rw'⟩ := RelO.some_of (v := v) (o := valueAt vs q) (by rw [← e1]; exact rel.val q)
      exact wpAny_getItem_of (kV_is ry) dd.mapOf hw (h v w' _ (I.tok _) rw' rv)
  · obtain ⟨zs, n, rfl, hn, h8⟩ := kOk_t ko
    obtain ⟨dd, hs, z, _⟩ := raw_at I ex e rk
    cases hk with
    | tup h1 h2 =>
      cases ry
      rcases rk.get hn with ⟨e1, e2⟩ | ⟨b, w', v, d', e1, rw', rv, e2⟩
      · rw [hg] at e2; cases e2
      · rw [hg] at e2; cases e2
        exact wpAny_getItem_heap (roomN hr) ⟨Rp.nst I ex (.tup h1 h2) hn rfl, h8⟩ dd e1 (h v w' _ (I.tok _) rw' rv)
theorem dx_len {Q : Value → Shared → Prop} (I : Inv X pins σ H s) (ex : Ex F H) (hd : DicO (bx X) F a t ks (H a)) (h : ∀ tk s', Inv X pins σ H s' → Q (.int ks.length tk) s') : wpAny (model X.prog X.w) A (call (.builtin "len") [.ref a]) Q E s := by
  rcases hd with ⟨rfl, kv, ob, e, rk⟩ | ⟨rfl, xs, ob, e, rk⟩
  · obtain ⟨_, z, hs, vs, rel, dd⟩ := dk_at I e
    refine call_len_dict hs dd (by rw [← rel.length]; rw [sizeLine_eq] at z; omega) ?_
    rw [← rel.length, rk.len]
    exact h _ _ (I.tok _)
  · obtain ⟨dd, hs, z, _⟩ := raw_at I ex e rk
    refine call_len_dictH hs dd (by rw [sizeLine_eq] at z; omega) ?_
    rw [rk.len]
    exact h _ _ (I.tok _)
end
theorem RpR.key {B : Bx} {F H : Hp} {v : V} {t : Bool} {k : D} (h : RpR B F H v k) (ko : kOkB t k = true) : Rp B F v k := by
  cases t
  · obtain ⟨q, rfl⟩ := kOk_f ko
    cases q with
    | inl i => exact h
    | inr x => exact h
  · obtain ⟨xs, n, rfl, _⟩ := kOk_t ko
    exact h
def rInX (B : Bx) (neg : Bool) : R2 := fun x y H Q => ∃ F a t ks k, Ex F H ∧ y = .ref a ∧ DicO B F a t ks (H a) ∧ Rp B F x k ∧ kOkB t k = true ∧ Q (.bl (if neg then !(getK ks k).isSome else (getK ks k).isSome)) H
section
variable {X : Cx} {j : Nat}
theorem op_inX (hr : Room j X.A) : OpR X (compareOp .In) (rInX (bx X) false) := by
  intro pins s σ H x y v u Q I rx ry h
  obtain ⟨F, a, t, ks, k, ex, rfl, hd, hk, ko, q⟩ := h
  cases ry
  exact dx_in hr I ex hd hk ko rx fun s' I' => ⟨.bl _, H, I', rfl, q⟩
theorem op_notInX (hr : Room j X.A) : OpR X (compareOp .NotIn) (rInX (bx X) true) := by
  intro pins s σ H x y v u Q I rx ry h
  obtain ⟨F, a, t, ks, k, ex, rfl, hd, hk, ko, q⟩ := h
  cases ry
  exact dx_notIn hr I ex hd hk ko rx fun s' I' => ⟨.bl _, H, I', rfl, q⟩
theorem dx_type {F H : Hp} {pins : List (Addr × Obj)} {σ : L2.St} {s : Shared} {a : Addr} {t : Bool} {ks : List (D × D)} (I : Inv X pins σ H s) (ex : Ex F H) (hd : DicO (bx X) F a t ks (H a)) : s.TypeIs (.ref a) "dict" := by
  rcases hd with ⟨rfl, kv, ob, e, rk⟩ | ⟨rfl, xs, ob, e, rk⟩
  · obtain ⟨_, z, hs, vs, rel, dd⟩ := dk_at I e
    exact dd.typeIs
  · obtain ⟨dd, hs, z, _⟩ := raw_at I ex e rk
    exact dd.typeIs
def rIxX (B : Bx) : R2 := fun x y H Q => ∃ F a t ks k d, Ex F H ∧ x = .ref a ∧ DicO B F a t ks (H a) ∧ Rp B F y k ∧ kOkB t k = true ∧ getK ks k = some d ∧ ∀ v, Rp B F v d → Q v H
theorem ix_dic (hr : Room j X.A) : IxR X (rIxX (bx X)) := by
  intro value slice pins s σ H x y v u Q I rx ry h hs
  obtain ⟨F, a, t, ks, k, d, ex, rfl, hd, hk, ko, hg, q⟩ := h
  cases rx
  exact tail_any (dx_type I ex hd) slot_dict_getitem.lookup (dx_item hr I ex hd hk ko ry hg fun v w' s' I' rw' rv => ⟨v, H, I', rw', q v rv⟩) hs
def rLenX (B : Bx) : List V → Hp → VK → Prop := fun xs H Q => ∃ F a t ks, Ex F H ∧ xs = [.ref a] ∧ DicO B F a t ks (H a) ∧ Q (.int ks.length) H
theorem call_lenX : CallR X (.builtin "len") (rLenX (bx X)) := by
  intro pins s σ H xs us Q I r h
  obtain ⟨F, a, t, ks, ex, rfl, hd, q⟩ := h
  obtain ⟨u, rfl, rx⟩ := r.one
  cases rx
  exact dx_len I ex hd fun tk s' I' => ⟨.int ks.length, H, I', ⟨tk, rfl⟩, q⟩
end
end Z
namespace Z
open PySem PySem.Spec PyProof.Rows L2
open Evl (Ex)
section
variable {X : Cx} {wx : WX} {e a b c : Expr} {es rest : List Expr} {T Ta Tb Tc : DTE} {pos : Pos} {U U' : DTT}
theorem de_cmp {op : CmpOp} {r : R2} {o : OpD} (ho : OpR X (compareOp op) r) (hr : RfO (bx X) r o) (ha : DR X wx a Ta) (hb : DR X wx b Tb) (hm : behindInMarks op b = false) : DE X wx (.Compare a [op] [b] pos) (dOp o Ta Tb) := by
  obtain ⟨ta, pa, ra⟩ := ha
  obtain ⟨tb, pb, rb⟩ := hb
  exact ⟨_, pe_cmpR ho pa pb hm, rf_op ra rb hr⟩
def dTst (T : DTE) : DTT := fun ρ M Q E => T ρ M (fun x M' => match x with | .bl k => Q k M' | _ => False) E
theorem rf_tst {B : Bx} {t : TE} (h : RfE B wx t T) : RfT B wx (tTest t) (dTst T) := fun W0 W m σ ρ M Q Qd Ed R k h1 h2 h3 => by
  refine h W0 W m σ ρ M _ _ Ed R k h1 (fun d v W' m' M' q le k' hv => ?_) h3
  cases d with
  | bl k => cases hv; exact ⟨k, rfl, h2 k W' m' M' q le k'⟩
  | _ => exact q.elim
theorem dt_cmp {op : CmpOp} {r : R2} {o : OpD} (ho : OpR X (compareOp op) r) (hr : RfO (bx X) r o) (ha : DR X wx a Ta) (hb : DR X wx b Tb) (hm : behindInMarks op b = false) : DT X wx (.Compare a [op] [b] pos) (dTst (dOp o Ta Tb)) := by
  obtain ⟨ta, pa, ra⟩ := ha
  obtain ⟨tb, pb, rb⟩ := hb
  exact ⟨_, pt_cmpR ho pa pb hm, rf_tst (rf_op ra rb hr)⟩
def dChain (o o' : OpD) (a b c : DTE) : DTE := fun ρ M Q E => a ρ M (fun x M1 => b ρ M1 (fun y M2 => o (drf M2 x) (drf M2 y) fun z => match z with
  | .bl k => if k = true then c ρ M2 (fun w M3 => o' (drf M3 y) (drf M3 w) fun d => Q d M3) E else Q (.bl false) M2
  | _ => False) E) E
theorem rf_chain {B : Bx} {ta tb tc : TE} {r r' : R2} {o o' : OpD} (ha : RfR B wx ta Ta) (hb : RfR B wx tb Tb) (hc : RfR B wx tc Tc) (hr : RfO B r o) (hr' : RfO B r' o') : RfE B wx (tChain r r' ta tb tc) (dChain o o' Ta Tb Tc) := fun W0 W m σ ρ M Q Qd Ed R k h1 h2 h3 => by
  refine ha W0 W m σ ρ M _ _ Ed R k h1 (fun d v W' m' M' q le k' hv => ?_) h3
  refine hb W0 W' m' σ ρ M' _ _ Ed (R.mono le) k' q (fun d2 v2 W'' m'' M'' q2 le2 k'' hv2 => ?_) (h3.up le)
  refine hr W'' m'' M'' v v2 _ _ _ _ k'' ((hv.le le2).drf k'') (hv2.drf k'') q2 fun d3 v3 W3 q3 le3 k3 hv3 => ?_
  cases d3 with
  | bl k =>
    cases hv3
    refine ⟨k, rfl, ?_⟩
    cases k with
    | false => exact h2 _ _ W3 m'' M'' q3 ((le.trans le2).trans le3) k3 (.bl _)
    | true =>
      refine hc W0 W3 m'' σ ρ M'' _ _ Ed (R.mono ((le.trans le2).trans le3)) k3 q3 (fun d4 v4 W4 m4 M4 q4 le4 k4 hv4 => ?_) (h3.up ((le.trans le2).trans le3))
      exact hr' W4 m4 M4 v2 v4 _ _ Q _ k4 ((hv2.le (le3.trans le4)).drf k4) (hv4.drf k4) q4 fun d5 v5 W5 q5 le5 k5 hv5 => h2 d5 v5 W5 m4 M4 q5 ((((le.trans le2).trans le3).trans le4).trans le5) k5 hv5
  | _ => exact q3.elim
theorem de_chain {op op' : CmpOp} {r r' : R2} {o o' : OpD} (ho : OpR X (compareOp op) r) (hr : RfO (bx X) r o) (ho' : OpR X (compareOp op') r') (hr' : RfO (bx X) r' o') (ha : DR X wx a Ta) (hb : DR X wx b Tb) (hc : DR X wx c Tc)
    (hm : lastMarks [op, op'] [b, c] = false := by with_unfolding_all rfl) : DE X wx (.Compare a [op, op'] [b, c] pos) (dChain o o' Ta Tb Tc) := by
  obtain ⟨ta, pa, ra⟩ := ha
  obtain ⟨tb, pb, rb⟩ := hb
  obtain ⟨tc, pc, rc⟩ := hc
  exact ⟨_, pe_chain ho ho' pa pb pc hm, rf_chain ra rb rc hr hr'⟩
theorem dt_chain {op op' : CmpOp} {r r' : R2} {o o' : OpD} (ho : OpR X (compareOp op) r) (hr : RfO (bx X) r o) (ho' : OpR X (compareOp op') r') (hr' : RfO (bx X) r' o') (ha : DR X wx a Ta) (hb : DR X wx b Tb) (hc : DR X wx c Tc)
    (hm : lastMarks [op, op'] [b, c] = false := by with_unfolding_all rfl) : DT X wx (.Compare a [op, op'] [b, c] pos) (dTst (dChain o o' Ta Tb Tc)) := by
  obtain ⟨ta, pa, ra⟩ := ha
  obtain ⟨tb, pb, rb⟩ := hb
  obtain ⟨tc, pc, rc⟩ := hc
  exact ⟨_, pt_chain ho ho' pa pb pc hm, rf_tst (rf_chain ra rb rc hr hr')⟩
def oLt (x y : D) (Q : D → Prop) : Prop := match x, y with
  | .int i, .int j => Q (.bl (decide (i < j)))
  | _, _ => False
def oLe (x y : D) (Q : D → Prop) : Prop := match x, y with
  | .int i, .int j => Q (.bl (decide (i ≤ j)))
  | _, _ => False
def oGt (x y : D) (Q : D → Prop) : Prop := match x, y with
  | .int i, .int j => Q (.bl (decide (j < i)))
  | _, _ => False
def oGe (x y : D) (Q : D → Prop) : Prop := match x, y with
  | .int i, .int j => Q (.bl (decide (j ≤ i)))
  | _, _ => False
theorem rf_lt {B : Bx} : RfO B (rI0 fun i j => .bl (decide (i < j))) oLt := rf_int0 (gd := fun i j => .bl (decide (i < j))) (fun _ _ _ => .bl _) fun x y Q h => by
  unfold oLt at h
  split at h
  · exact ⟨_, _, rfl, rfl, h⟩
  · exact h.elim
theorem rf_le {B : Bx} : RfO B (rI0 fun i j => .bl (decide (i ≤ j))) oLe := rf_int0 (gd := fun i j => .bl (decide (i ≤ j))) (fun _ _ _ => .bl _) fun x y Q h => by
  unfold oLe at h
  split at h
  · exact ⟨_, _, rfl, rfl, h⟩
  · exact h.elim
theorem rf_gt {B : Bx} : RfO B (rI0 fun i j => .bl (decide (j < i))) oGt := rf_int0 (gd := fun i j => .bl (decide (j < i))) (fun _ _ _ => .bl _) fun x y Q h => by
  unfold oGt at h
  split at h
  · exact ⟨_, _, rfl, rfl, h⟩
  · exact h.elim
def D.isNon : D → Bool
  | .non => true
  | _ => false
def oIsN (x y : D) (Q : D → Prop) : Prop := y = .non ∧ Q (.bl x.isNon)
def oNotN (x y : D) (Q : D → Prop) : Prop := y = .non ∧ Q (.bl (!x.isNon))
theorem isNon_of {B : Bx} {F H : Hp} {x : V} {d : D} (h : RpR B F H x d) : decide (x = V.non) = d.isNon := by
  cases d with
  | non => cases h; rfl
  | lst _ => obtain ⟨a, vs, rfl, _⟩ := h; rfl
  | obj _ _ => obtain ⟨a, dx, vs, rfl, _⟩ := h; rfl
  | dic _ _ => obtain ⟨a, rfl, _⟩ := h; rfl
  | _ => cases h <;> rfl
theorem rf_isN {B : Bx} : RfO B (fun x y H Q => y = .non ∧ Q (.bl (decide (x = .non))) H) oIsN := by
  intro W m M x y dx dy Q Qd mk rx ry h k
  obtain ⟨rfl, q⟩ := h
  cases ry
  refine ⟨rfl, ?_⟩
  rw [isNon_of rx]
  exact k _ _ W q (Wd.le.refl W) mk (.bl _)
theorem rf_notN {B : Bx} : RfO B (fun x y H Q => y = .non ∧ Q (.bl (!decide (x = .non))) H) oNotN := by
  intro W m M x y dx dy Q Qd mk rx ry h k
  obtain ⟨rfl, q⟩ := h
  cases ry
  refine ⟨rfl, ?_⟩
  rw [isNon_of rx]
  exact k _ _ W q (Wd.le.refl W) mk (.bl _)
mutual
def D.py : D → PyData
  | .non => .none
  | .bl b => .bool b
  | .int i => .int i
  | .str x => .str x
  | .lst xs => .list (pyL xs)
  | .tup xs => .tuple (pyL xs)
  | _ => .dict []
def pyL : List D → List PyData
  | [] => []
  | x :: xs => x.py :: pyL xs
end
mutual
theorem Rp.dp {B : Bx} {F H : Hp} (ok : Ex F H) : ∀ {v : V} {d : D}, Rp B F v d → PyData.canLay0 d.py = true → Dp B.K H v d.py
  | _, _, .non, _ => .non
  | _, _, .bl b, _ => .bl b
  | _, _, .int i, _ => .int i
  | _, _, .str x, _ => .str x
  | _, _, .lst h a, c => .lst (Evl.ex_l ok h) (RpAll.dp ok a (by simpa [D.py, PyData.canLay0] using c))
  | _, _, .tup h a, c => .tup (Evl.ex_t ok h) (RpAll.dp ok a (by simpa [D.py, PyData.canLay0] using c))
  | _, _, .ty n, c => by simp [D.py, PyData.canLay0] at c
  | _, _, .ref a, c => by simp [D.py, PyData.canLay0] at c
  | _, _, .obj h a, c => by simp [D.py, PyData.canLay0] at c
  | _, _, .exc h, c => by simp [D.py, PyData.canLay0] at c
  | _, _, .dic h a, c => by simp [D.py, PyData.canLay0] at c
  | _, _, .dit h a, c => by simp [D.py, PyData.canLay0] at c
  | _, _, .cls n, c => by simp [D.py, PyData.canLay0] at c
theorem RpAll.dp {B : Bx} {F H : Hp} (ok : Ex F H) : ∀ {v : List V} {d : List D}, RpAll B F v d → PyData.canLayAll0 (pyL d) = true → DpAll B.K H v (pyL d)
  | _, _, .nil, _ => .nil
  | _, _, .cons h t, c => by
    have c' := c
    simp only [pyL, PyData.canLayAll0, Bool.and_eq_true] at c'
    exact .cons (Rp.dp ok h c'.1) (RpAll.dp ok t c'.2)
end
theorem RpR.dp {B : Bx} {F H : Hp} (ok : Ex F H) {v : V} {d : D} (h : RpR B F H v d) (c : PyData.canLay0 d.py = true) : Dp B.K H v d.py := by
  cases d with
  | lst ds => obtain ⟨a, vs, rfl, h1, h2⟩ := h; exact .lst h1 (h2.dp ok (by simpa [D.py, PyData.canLay0] using c))
  | obj C fs => simp [D.py, PyData.canLay0] at c
  | dic _ ks => simp [D.py, PyData.canLay0] at c
  | non => exact Rp.dp ok h c
  | bl _ => exact Rp.dp ok h c
  | int _ => exact Rp.dp ok h c
  | str _ => exact Rp.dp ok h c
  | ty _ => exact Rp.dp ok h c
  | ref _ => exact Rp.dp ok h c
  | cls _ => exact Rp.dp ok h c
  | tup _ => exact Rp.dp ok h c
  | exc _ => exact Rp.dp ok h c
def shp (d : PyData) : Bool := d.canLay0 && decide (d.depth ≤ 200)
theorem shp_lay {d : PyData} (h : shp d = true) : d.canLay0 = true := (Bool.and_eq_true_iff.mp h).1
theorem shp_dep {d : PyData} (h : shp d = true) : d.depth ≤ 200 := of_decide_eq_true (Bool.and_eq_true_iff.mp h).2
def rEqZ (K : PySem.W.Frag) : R2 := fun x y H Q => ∃ d e, Dp K H x d ∧ Dp K H y e ∧ shp d = true ∧ shp e = true ∧ Q (.bl (PyData.eqv d e)) H
def rNeZ (K : PySem.W.Frag) : R2 := fun x y H Q => ∃ d e, Dp K H x d ∧ Dp K H y e ∧ shp d = true ∧ shp e = true ∧ Q (.bl (!PyData.eqv d e)) H
theorem room_shp {k : Nat} (hr : Room k X.A) {d e : PyData} (h : shp d = true) : X.A.units + min d.depth e.depth < cLine := by
  have h1 := hr.un
  have h2 := shp_dep h
  have h3 : min d.depth e.depth ≤ d.depth := Nat.min_le_left _ _
  omega
theorem op_eqZ {k : Nat} (hr : Room k X.A) : OpR X (compareOp .Eq) (rEqZ X.K) := fun pins s σ H x y v u Q I rx ry ⟨d, e, hd, he, sd, se, q⟩ => by
  obtain ⟨_, r1⟩ := Dp.reads I d x v hd rx
  obtain ⟨_, r2⟩ := Dp.reads I e y u he ry
  exact SeqAt.compareEq_reads r1 r2 (shp_lay sd) (shp_lay se) (room_shp hr sd) ⟨.bl _, H, I, rfl, q⟩
theorem op_neZ {k : Nat} (hr : Room k X.A) : OpR X (compareOp .NotEq) (rNeZ X.K) := fun pins s σ H x y v u Q I rx ry ⟨d, e, hd, he, sd, se, q⟩ => by
  obtain ⟨_, r1⟩ := Dp.reads I d x v hd rx
  obtain ⟨_, r2⟩ := Dp.reads I e y u he ry
  exact SeqAt.compareNe_reads r1 r2 (shp_lay sd) (shp_lay se) (room_shp hr sd) ⟨.bl _, H, I, rfl, q⟩
def oEqB (x y : D) (Q : Bool → Prop) : Prop := match x, y with
  | .int i, .int j => Q (decide (i = j))
  | .str a, .str b => Q (decide (a = b))
  | .bl a, .bl b => Q (decide (a = b))
  | .non, .non => Q true
  | .non, .int _ => Q false
  | .int _, .non => Q false
  | .non, .str _ => Q false
  | .str _, .non => Q false
  | x, y => shp x.py = true ∧ shp y.py = true ∧ Q (PyData.eqv x.py y.py)
def oEq (x y : D) (Q : D → Prop) : Prop := oEqB x y fun b => Q (.bl b)
def oNe (x y : D) (Q : D → Prop) : Prop := oEqB x y fun b => Q (.bl (!b))
theorem rf_eq {B : Bx} : RfO B (fun x y H Q => rEq x y H Q ∨ rEqZ B.K x y H Q) oEq := by
  intro W m M x y dx dy Q Qd mk rx ry h k
  have ok := W.ok.trans (cat_ex W.H m)
  unfold oEq oEqB at h
  split at h
  · cases rx; cases ry
    refine .inl ⟨rfl, ?_⟩
    rename_i i j
    have e : decide (V.int i = V.int j) = decide (i = j) := by simp
    rw [e]; exact k _ _ W h (Wd.le.refl W) mk (.bl _)
  · cases rx; cases ry
    refine .inl ⟨rfl, ?_⟩
    rename_i i j
    have e : decide (V.str i = V.str j) = decide (i = j) := by simp
    rw [e]; exact k _ _ W h (Wd.le.refl W) mk (.bl _)
  · cases rx; cases ry
    refine .inl ⟨rfl, ?_⟩
    rename_i i j
    have e : decide (V.bl i = V.bl j) = decide (i = j) := by simp
    rw [e]; exact k _ _ W h (Wd.le.refl W) mk (.bl _)
  · cases rx; cases ry
    exact .inl ⟨rfl, k _ _ W h (Wd.le.refl W) mk (.bl _)⟩
  · cases rx; cases ry
    exact .inl ⟨rfl, k _ _ W h (Wd.le.refl W) mk (.bl _)⟩
  · cases rx; cases ry
    exact .inl ⟨rfl, k _ _ W h (Wd.le.refl W) mk (.bl _)⟩
  · cases rx; cases ry
    exact .inl ⟨rfl, k _ _ W h (Wd.le.refl W) mk (.bl _)⟩
  · cases rx; cases ry
    exact .inl ⟨rfl, k _ _ W h (Wd.le.refl W) mk (.bl _)⟩
  · obtain ⟨s1, s2, q⟩ := h
    exact .inr ⟨_, _, rx.dp ok (shp_lay s1), ry.dp ok (shp_lay s2), s1, s2, k _ _ W q (Wd.le.refl W) mk (.bl _)⟩
theorem rf_ne {B : Bx} : RfO B (fun x y H Q => rNe x y H Q ∨ rNeZ B.K x y H Q) oNe := by
  intro W m M x y dx dy Q Qd mk rx ry h k
  have ok := W.ok.trans (cat_ex W.H m)
  unfold oNe oEqB at h
  split at h
  · cases rx; cases ry
    refine .inl ⟨rfl, ?_⟩
    rename_i i j
    have e : decide (V.int i = V.int j) = decide (i = j) := by simp
    rw [e]; exact k _ _ W h (Wd.le.refl W) mk (.bl _)
  · cases rx; cases ry
    refine .inl ⟨rfl, ?_⟩
    rename_i i j
    have e : decide (V.str i = V.str j) = decide (i = j) := by simp
    rw [e]; exact k _ _ W h (Wd.le.refl W) mk (.bl _)
  · cases rx; cases ry
    refine .inl ⟨rfl, ?_⟩
    rename_i i j
    have e : decide (V.bl i = V.bl j) = decide (i = j) := by simp
    rw [e]; exact k _ _ W h (Wd.le.refl W) mk (.bl _)
  · cases rx; cases ry
    exact .inl ⟨rfl, k _ _ W h (Wd.le.refl W) mk (.bl _)⟩
  · cases rx; cases ry
    exact .inl ⟨rfl, k _ _ W h (Wd.le.refl W) mk (.bl _)⟩
  · cases rx; cases ry
    exact .inl ⟨rfl, k _ _ W h (Wd.le.refl W) mk (.bl _)⟩
  · cases rx; cases ry
    exact .inl ⟨rfl, k _ _ W h (Wd.le.refl W) mk (.bl _)⟩
  · cases rx; cases ry
    exact .inl ⟨rfl, k _ _ W h (Wd.le.refl W) mk (.bl _)⟩
  · obtain ⟨s1, s2, q⟩ := h
    exact .inr ⟨_, _, rx.dp ok (shp_lay s1), ry.dp ok (shp_lay s2), s1, s2, k _ _ W q (Wd.le.refl W) mk (.bl _)⟩
theorem op_eqA {k : Nat} (hr : Room k X.A) : OpR X (compareOp .Eq) (fun x y H Q => rEq x y H Q ∨ rEqZ X.K x y H Q) := op_eq.or (op_eqZ hr)
theorem op_neA {k : Nat} (hr : Room k X.A) : OpR X (compareOp .NotEq) (fun x y H Q => rNe x y H Q ∨ rNeZ X.K x y H Q) := op_ne.or (op_neZ hr)
def flatD : D → Bool
  | .int _ => true
  | .str _ => true
  | _ => false
def eqF : D → D → Bool
  | .int i, .int j => decide (i = j)
  | .str i, .str j => decide (i = j)
  | _, _ => false
def inD (x : D) (xs : List D) : Bool := xs.any fun y => eqF y x
def oInB (x y : D) (Q : Bool → Prop) : Prop := match x, y with
  | .str a, .str b => ∃ c : Nat, a = ⟨#[c]⟩ ∧ Q (decide (c ∈ b.cps.toList))
  | x, .lst ys => flatD x = true ∧ ys.all flatD = true ∧ Q (inD x ys)
  | x, .tup ys => flatD x = true ∧ ys.all flatD = true ∧ Q (inD x ys)
  | x, .dic t ks => kOkB t x = true ∧ Q (getK ks x).isSome
  | _, _ => False
def oIn (x y : D) (Q : D → Prop) : Prop := oInB x y fun b => Q (.bl b)
def oNotIn (x y : D) (Q : D → Prop) : Prop := oInB x y fun b => Q (.bl (!b))
theorem flat_of {B : Bx} {F : Hp} {v : V} {d : D} (h : Rp B F v d) (f : flatD d = true) : (∃ i, d = .int i ∧ v = .int i) ∨ ∃ x, d = .str x ∧ v = .str x := by
  cases d with
  | int i => cases h; exact .inl ⟨i, rfl, rfl⟩
  | str x => cases h; exact .inr ⟨x, rfl, rfl⟩
  | _ => cases f
theorem flatR_of {B : Bx} {F H : Hp} {v : V} {d : D} (h : RpR B F H v d) (f : flatD d = true) : Rp B F v d := by
  cases d with
  | int i => exact h
  | str x => exact h
  | _ => cases f
theorem flat_V {B : Bx} {F : Hp} {v : V} {d : D} (h : Rp B F v d) (f : flatD d = true) : flatV v = true := by
  rcases flat_of h f with ⟨i, rfl, rfl⟩ | ⟨i, rfl, rfl⟩ <;> rfl
theorem eqF_of {B : Bx} {F : Hp} {v w : V} {d e : D} (h : Rp B F v d) (h' : Rp B F w e) (f : flatD d = true) (f' : flatD e = true) : eqV v w = eqF d e := by
  rcases flat_of h f with ⟨i, rfl, rfl⟩ | ⟨i, rfl, rfl⟩ <;> rcases flat_of h' f' with ⟨j, rfl, rfl⟩ | ⟨j, rfl, rfl⟩ <;> first | (simp [eqV, eqF]; done) | (show (_ == _) = decide _; rw [Bool.eq_iff_iff]; simp)
theorem inD_of {B : Bx} {F : Hp} {v : V} {d : D} (h : Rp B F v d) (f : flatD d = true) : ∀ {vs : List V} {ds : List D}, RpAll B F vs ds → ds.all flatD = true → vs.all flatV = true ∧ inV v vs = inD d ds
  | _, _, .nil, _ => ⟨rfl, rfl⟩
  | _, _, .cons r t, c => by
    have c' := c
    simp only [List.all_cons, Bool.and_eq_true] at c'
    obtain ⟨h1, h2⟩ := inD_of h f t c'.2
    refine ⟨by simp [List.all_cons, flat_V r c'.1, h1], ?_⟩
    unfold inV inD at h2 ⊢
    rw [List.any_cons, List.any_cons, h2, eqF_of r h c'.1 f]
theorem rf_inB {B : Bx} {neg : Bool} {r1 : R2} {o : OpD} (ho : ∀ x y Q, o x y Q → oInB x y fun b => Q (.bl (if neg then !b else b)))
    (h1 : ∀ (c : Nat) (z : Str) H (Q : VK), Q (.bl (if neg then !decide (c ∈ z.cps.toList) else decide (c ∈ z.cps.toList))) H → r1 (.str ⟨#[c]⟩) (.str z) H Q) : RfO B (fun x y H Q => r1 x y H Q ∨ rIn B.K neg x y H Q ∨ rInX B neg x y H Q) o := by
  intro W m M x y dx dy Q Qd mk rx ry h k
  have h := ho _ _ _ h
  unfold oInB at h
  split at h
  · obtain ⟨c, rfl, q⟩ := h
    cases rx; cases ry
    exact .inl (h1 c _ _ _ (k _ _ W q (Wd.le.refl W) mk (.bl _)))
  · obtain ⟨f, g, q⟩ := h
    obtain ⟨a, vs, rfl, h3, h4⟩ := ry
    obtain ⟨i1, i2⟩ := inD_of (flatR_of rx f) f h4 g
    refine .inr (.inl ⟨a, vs, rfl, .inl h3, flat_V (flatR_of rx f) f, i1, ?_⟩)
    rw [i2]
    exact k _ _ W q (Wd.le.refl W) mk (.bl _)
  · obtain ⟨f, g, q⟩ := h
    cases ry with
    | tup h3 h4 =>
      obtain ⟨i1, i2⟩ := inD_of (flatR_of rx f) f h4 g
      refine .inr (.inl ⟨_, _, rfl, .inr (Evl.ex_t (W.ok.trans (cat_ex W.H m)) h3), flat_V (flatR_of rx f) f, i1, ?_⟩)
      rw [i2]
      exact k _ _ W q (Wd.le.refl W) mk (.bl _)
  · obtain ⟨f, q⟩ := h
    obtain ⟨a, rfl, h3⟩ := ry
    exact .inr (.inr ⟨W.F, a, _, _, _, W.ok.trans (cat_ex W.H m), rfl, h3, rx.key f, f, k _ _ W q (Wd.le.refl W) mk (.bl _)⟩)
  · exact h.elim
theorem rf_in {B : Bx} : RfO B (fun x y H Q => (∃ (c : Nat) (z : Str), x = .str ⟨#[c]⟩ ∧ y = .str z ∧ Q (.bl (decide (c ∈ z.cps.toList))) H) ∨ rIn B.K false x y H Q ∨ rInX B false x y H Q) oIn :=
  rf_inB (neg := false) (fun x y Q h => h) fun c z H Q q => ⟨c, z, rfl, rfl, q⟩
theorem rf_notIn {B : Bx} : RfO B (fun x y H Q => (∃ (c : Nat) (z : Str), x = .str ⟨#[c]⟩ ∧ y = .str z ∧ Q (.bl (!decide (c ∈ z.cps.toList))) H) ∨ rIn B.K true x y H Q ∨ rInX B true x y H Q) oNotIn :=
  rf_inB (neg := true) (fun x y Q h => h) fun c z H Q q => ⟨c, z, rfl, rfl, q⟩
theorem op_inA {k : Nat} (hr : Room k X.A) : OpR X (compareOp .In) (fun x y H Q => (∃ (c : Nat) (z : Str), x = .str ⟨#[c]⟩ ∧ y = .str z ∧ Q (.bl (decide (c ∈ z.cps.toList))) H) ∨ rIn X.K false x y H Q ∨ rInX (bx X) false x y H Q) := op_in_sign.or (op_in_seq.or (op_inX hr))
theorem op_notInA {k : Nat} (hr : Room k X.A) : OpR X (compareOp .NotIn) (fun x y H Q => (∃ (c : Nat) (z : Str), x = .str ⟨#[c]⟩ ∧ y = .str z ∧ Q (.bl (!decide (c ∈ z.cps.toList))) H) ∨ rIn X.K true x y H Q ∨ rInX (bx X) true x y H Q) := op_notIn_sign.or (op_notIn_seq.or (op_notInX hr))
def dAndT (t u : DTT) : DTT := fun ρ M Q E => t ρ M (fun c M' => if c = true then u ρ M' Q E else Q false M') E
def dOrT (t u : DTT) : DTT := fun ρ M Q E => t ρ M (fun c M' => if c = true then Q true M' else u ρ M' Q E) E
def dNotT (t : DTT) : DTT := fun ρ M Q E => t ρ M (fun c => Q (!c)) E
theorem dw_and1 (ha : DT X wx a U) : DW X wx (.BoolOp .And [a] pos) U := by
  obtain ⟨t, p, r⟩ := ha
  exact ⟨_, pw_and1 p, r⟩
theorem dw_or1 (ha : DT X wx a U) : DW X wx (.BoolOp .Or [a] pos) U := by
  obtain ⟨t, p, r⟩ := ha
  exact ⟨_, pw_or1 p, r⟩
theorem dw_and (ha : DT X wx a U) (hb : DW X wx (.BoolOp .And (b :: rest) pos) U') : DW X wx (.BoolOp .And (a :: b :: rest) pos) (dAndT U U') := by
  obtain ⟨t, p, r⟩ := ha
  obtain ⟨t', p', r'⟩ := hb
  refine ⟨_, pw_and p p', fun W0 W m σ ρ M Q Qd Ed R k h1 h2 h3 => r W0 W m σ ρ M _ _ Ed R k h1 (fun c W' m' M' q le k' => ?_) h3⟩
  cases c with
  | true => exact r' W0 W' m' σ ρ M' _ _ Ed (R.mono le) k' q (fun c' W'' m'' M'' q2 le2 => h2 c' W'' m'' M'' q2 (le.trans le2)) (h3.up le)
  | false => exact h2 false W' m' M' q le k'
theorem dw_or (ha : DT X wx a U) (hb : DW X wx (.BoolOp .Or (b :: rest) pos) U') : DW X wx (.BoolOp .Or (a :: b :: rest) pos) (dOrT U U') := by
  obtain ⟨t, p, r⟩ := ha
  obtain ⟨t', p', r'⟩ := hb
  refine ⟨_, pw_or p p', fun W0 W m σ ρ M Q Qd Ed R k h1 h2 h3 => r W0 W m σ ρ M _ _ Ed R k h1 (fun c W' m' M' q le k' => ?_) h3⟩
  cases c with
  | false => exact r' W0 W' m' σ ρ M' _ _ Ed (R.mono le) k' q (fun c' W'' m'' M'' q2 le2 => h2 c' W'' m'' M'' q2 (le.trans le2)) (h3.up le)
  | true => exact h2 true W' m' M' q le k'
theorem DW.t (h : DW X wx a U) : DT X wx a U := by
  obtain ⟨t, p, r⟩ := h
  exact ⟨_, p.pt, r⟩
theorem dt_not (ha : DT X wx a U) : DT X wx (.UnaryOp .Not a pos) (dNotT U) := by
  obtain ⟨t, p, r⟩ := ha
  exact ⟨_, pt_not p, fun W0 W m σ ρ M Q Qd Ed R k h1 h2 h3 => r W0 W m σ ρ M _ _ Ed R k h1 (fun c W' m' M' q le k' => h2 (!c) W' m' M' q le k') h3⟩
def dAndV (t u : DTE) : DTE := fun ρ M Q E => t ρ M (fun x M' => match x with | .bl c => if c = true then u ρ M' Q E else Q (.bl false) M' | _ => False) E
def dOrV (t u : DTE) : DTE := fun ρ M Q E => t ρ M (fun x M' => match x with | .bl c => if c = true then Q (.bl true) M' else u ρ M' Q E | _ => False) E
def dNotV (t : DTE) : DTE := fun ρ M Q E => t ρ M (fun x M' => match x with | .bl c => Q (.bl (!c)) M' | _ => False) E
theorem de_one {op} (h : DE X wx a T) : DE X wx (.BoolOp op [a] pos) T := by
  obtain ⟨t, p, r⟩ := h
  exact ⟨_, pe_one p, r⟩
theorem de_and (ha : DE X wx a Ta) (hb : DE X wx (.BoolOp .And (b :: rest) pos) Tb) : DE X wx (.BoolOp .And (a :: b :: rest) pos) (dAndV Ta Tb) := by
  obtain ⟨t, p, r⟩ := ha
  obtain ⟨t', p', r'⟩ := hb
  refine ⟨_, pe_and p p', fun W0 W m σ ρ M Q Qd Ed R k h1 h2 h3 => r W0 W m σ ρ M _ _ Ed R k h1 (fun d v W' m' M' q le k' hv => ?_) h3⟩
  cases d with
  | bl c =>
    cases hv
    refine ⟨c, rfl, ?_⟩
    cases c with
    | true => exact r' W0 W' m' σ ρ M' _ _ Ed (R.mono le) k' q (fun c' v' W'' m'' M'' q2 le2 => h2 c' v' W'' m'' M'' q2 (le.trans le2)) (h3.up le)
    | false => exact h2 _ _ W' m' M' q le k' (.bl _)
  | _ => exact q.elim
theorem de_or (ha : DE X wx a Ta) (hb : DE X wx (.BoolOp .Or (b :: rest) pos) Tb) : DE X wx (.BoolOp .Or (a :: b :: rest) pos) (dOrV Ta Tb) := by
  obtain ⟨t, p, r⟩ := ha
  obtain ⟨t', p', r'⟩ := hb
  refine ⟨_, pe_or p p', fun W0 W m σ ρ M Q Qd Ed R k h1 h2 h3 => r W0 W m σ ρ M _ _ Ed R k h1 (fun d v W' m' M' q le k' hv => ?_) h3⟩
  cases d with
  | bl c =>
    cases hv
    refine ⟨c, rfl, ?_⟩
    cases c with
    | false => exact r' W0 W' m' σ ρ M' _ _ Ed (R.mono le) k' q (fun c' v' W'' m'' M'' q2 le2 => h2 c' v' W'' m'' M'' q2 (le.trans le2)) (h3.up le)
    | true => exact h2 _ _ W' m' M' q le k' (.bl _)
  | _ => exact q.elim
def dIfE (t : DTT) (a b : DTE) : DTE := fun ρ M Q E => t ρ M (fun c M' => if c = true then a ρ M' Q E else b ρ M' Q E) E
def truD (x : D) (Q : Bool → Prop) : Prop := match x with
  | .non => Q false
  | .bl b => Q b
  | .int i => Q (i != 0)
  | .str y => y.length ≤ sizeLine ∧ Q ((y.length : Int) != 0)
  | .lst xs => Q (!xs.isEmpty)
  | .tup xs => Q (!xs.isEmpty)
  | _ => False
def dTru (T : DTE) : DTT := fun ρ M Q E => T ρ M (fun x M' => truD (drf M' x) fun b => Q b M') E
theorem isE_of {B : Bx} {F : Hp} {vs : List V} {ds : List D} (h : RpAll B F vs ds) : vs.isEmpty = ds.isEmpty := by cases h <;> rfl
theorem truD_of {x : D} {Q : Bool → Prop} (h : truD x Q) : (x = .non ∧ Q false) ∨ (∃ b, x = .bl b ∧ Q b) ∨ (∃ i, x = .int i ∧ Q (i != 0)) ∨ (∃ y, x = .str y ∧ y.length ≤ sizeLine ∧ Q ((y.length : Int) != 0)) ∨ (∃ xs, x = .lst xs ∧ Q (!xs.isEmpty)) ∨ (∃ xs, x = .tup xs ∧ Q (!xs.isEmpty)) := by
  unfold truD at h
  split at h
  · exact .inl ⟨rfl, h⟩
  · exact .inr (.inl ⟨_, rfl, h⟩)
  · exact .inr (.inr (.inl ⟨_, rfl, h⟩))
  · exact .inr (.inr (.inr (.inl ⟨_, rfl, h.1, h.2⟩)))
  · exact .inr (.inr (.inr (.inr (.inl ⟨_, rfl, h⟩))))
  · exact .inr (.inr (.inr (.inr (.inr ⟨_, rfl, h⟩))))
  · exact h.elim
theorem dt_tru (ha : DR X wx a Ta) (he : ∀ whole, isTrue a X.env whole = (do let v ← whole; standAt a.pos; holding [v] (truthy v)) := by intro _; rfl) : DT X wx a (dTru Ta) := by
  obtain ⟨t, p, r⟩ := ha
  refine ⟨_, pt_truth p he, fun W0 W m σ ρ M Q Qd Ed R k h1 h2 h3 => r W0 W m σ ρ M _ _ Ed R k h1 (fun d v W' m' M' q le k' hv => ?_) h3⟩
  have hv := hv.drf k'
  have ok := W'.ok.trans (cat_ex W'.H m')
  rcases truD_of q with ⟨e, q⟩ | ⟨b, e, q⟩ | ⟨i, e, q⟩ | ⟨y, e, hz, q⟩ | ⟨xs, e, q⟩ | ⟨xs, e, q⟩ <;> rw [e] at hv
  · cases hv; exact ⟨_, rfl, h2 _ W' m' M' q le k'⟩
  · cases hv; exact ⟨_, rfl, h2 _ W' m' M' q le k'⟩
  · cases hv; exact ⟨_, rfl, h2 _ W' m' M' q le k'⟩
  · cases hv; exact ⟨_, ⟨hz, rfl⟩, h2 _ W' m' M' q le k'⟩
  · obtain ⟨a, vs, rfl, h4, h5⟩ := hv; exact ⟨_, .inl ⟨vs, h4, rfl⟩, by rw [isE_of h5]; exact h2 _ W' m' M' q le k'⟩
  · cases hv with
    | tup h4 h5 => exact ⟨_, .inr (.inl ⟨_, Evl.ex_t ok h4, rfl⟩), by rw [isE_of h5]; exact h2 _ W' m' M' q le k'⟩
end
end Z
namespace Z
open PySem PySem.Spec PyProof.Rows L2
open Evl (Ex)
section
variable {X : Cx} {wx : WX} {e a b c : Expr} {es rest : List Expr} {T Ta Tb Tc : DTE} {pos : Pos} {U U' : DTT}
def oIx (x y : D) (Q : D → Prop) : Prop := match x, y with
  | .lst xs, .int i => ∃ d, atI xs i = some d ∧ Q d
  | .tup xs, .int i => ∃ d, atI xs i = some d ∧ Q d
  | .str z, .int i => z.length ≤ sizeLine ∧ ∃ c, atI z.cps.toList i = some c ∧ Q (.str ⟨#[c]⟩)
  | .dic t ks, k => kOkB t k = true ∧ ∃ d, getK ks k = some d ∧ Q d
  | _, _ => False
theorem atI_of {B : Bx} {F : Hp} {vs : List V} {ds : List D} (h : RpAll B F vs ds) {i : Int} {d : D} (e : atI ds i = some d) : ∃ v, atI vs i = some v ∧ Rp B F v d := by
  unfold atI at e ⊢
  rw [h.length]
  cases q : ixN ds.length i with
  | none => rw [q] at e; cases e
  | some j => rw [q] at e; exact h.get e
theorem rf_ix {B : Bx} : RfO B (fun x y H Q => rIx B.K x y H Q ∨ rIxX B x y H Q) oIx := by
  intro W m M x y dx dy Q Qd mk rx ry h k
  have ok := W.ok.trans (cat_ex W.H m)
  unfold oIx at h
  split at h
  · obtain ⟨d, e, q⟩ := h
    obtain ⟨a, vs, rfl, h1, h2⟩ := rx
    cases ry
    obtain ⟨v, e', r⟩ := atI_of h2 e
    exact .inl (.inl ⟨a, vs, _, v, rfl, rfl, h1, e', k _ _ W q (Wd.le.refl W) mk r⟩)
  · obtain ⟨d, e, q⟩ := h
    cases rx with
    | tup h1 h2 =>
      cases ry
      obtain ⟨v, e', r⟩ := atI_of h2 e
      exact .inl (.inr (.inl ⟨_, _, _, v, rfl, rfl, Evl.ex_t ok h1, e', k _ _ W q (Wd.le.refl W) mk r⟩))
  · obtain ⟨hz, c, e, q⟩ := h
    cases rx
    cases ry
    exact .inl (.inr (.inr ⟨_, _, c, rfl, rfl, hz, e, k _ _ W q (Wd.le.refl W) mk (.str _)⟩))
  · obtain ⟨ko, d, hg, q⟩ := h
    obtain ⟨a, rfl, h1⟩ := rx
    exact .inr ⟨W.F, a, _, _, _, d, ok, rfl, h1, ry.key ko, ko, hg, fun v rv => k _ _ W q (Wd.le.refl W) mk rv⟩
  · exact h.elim
theorem de_ix {j : Nat} (hr : Room j X.A) (ha : DR X wx a Ta) (hb : DR X wx b Tb) (hs : PlainIx b := by exact fun _ _ => rfl) : DE X wx (.Subscript a b pos) (dOp oIx Ta Tb) := by
  obtain ⟨ta, pa, ra⟩ := ha
  obtain ⟨tb, pb, rb⟩ := hb
  exact ⟨_, pe_ix (ix_seq.or (ix_dic hr)) pa pb hs, rf_op ra rb rf_ix⟩
abbrev DTO := List Ent → Mu → (Option Int → Mu → Prop) → (Str → Mu → Prop) → Prop
def RfP (B : Bx) (wx : WX) (t : TO) (T : DTO) : Prop := ∀ (W0 W : Wd) (m : Hp) (σ : L2.St) (ρ : List Ent) (M : Mu) (Q : Option Int → Hp → Prop) (Qd : Option Int → Mu → Prop) (Ed : Str → Mu → Prop), Rel B W0 W σ ρ → MOk B W M m → T ρ M Qd Ed →
  (∀ o W' m' M', Qd o M' → W.le W' → MOk B W' M' m' → Q o (cat W'.H m')) → ExK B wx W σ Ed → t σ (cat W.H m) Q
def DO (X : Cx) (wx : WX) (e : Option Expr) (T : DTO) : Prop := ∃ t, PO X e t ∧ RfP (bx X) wx t T
def dONone : DTO := fun _ M Q _ => Q none M
def dOSome (T : DTE) : DTO := fun ρ M Q E => T ρ M (fun x M' => match x with | .int i => Q (some i) M' | _ => False) E
theorem do_none : DO X wx none dONone := ⟨_, po_none, fun W0 W m σ ρ M Q Qd Ed R k h1 h2 h3 => h2 none W m M h1 (Wd.le.refl W) k⟩
theorem do_some (he : DR X wx e T) : DO X wx (some e) (dOSome T) := by
  obtain ⟨t, p, r⟩ := he
  refine ⟨_, po_some p, fun W0 W m σ ρ M Q Qd Ed R k h1 h2 h3 => r W0 W m σ ρ M _ _ Ed R k h1 (fun d v W' m' M' q le k' hv => ?_) h3⟩
  cases d with
  | int i => cases hv; exact ⟨i, rfl, h2 _ W' m' M' q le k'⟩
  | _ => exact q.elim
def cutD (xs : List D) (lo hi : Option Int) : List D := (xs.drop (HT.sIx xs.length 0 lo)).take (HT.sIx xs.length xs.length hi - HT.sIx xs.length 0 lo)
theorem cut_of {B : Bx} {F : Hp} {vs : List V} {ds : List D} (h : RpAll B F vs ds) (lo hi : Option Int) : RpAll B F (cutV vs lo hi) (cutD ds lo hi) := by
  unfold cutV cutD
  rw [h.length]
  exact (h.drop _).take _
variable {lo hi : Option Expr} {p2 : Pos} {Tl Th : DTO}
def oSlL (x : D) (i j : Option Int) (Q : List D → Prop) : Prop := match x with | .lst xs => Q (cutD xs i j) | _ => False
def dSlL (T : DTE) (l h : DTO) : DTA := fun ρ M Q E => T ρ M (fun x M1 => l ρ M1 (fun i M2 => h ρ M2 (fun j M3 => oSlL (drf M3 x) i j fun ds => Q ds M3) E) E) E
def oSlS (x : D) (i j : Option Int) (Q : D → Prop) : Prop := match x with
  | .str z => z.length ≤ sizeLine ∧ Q (.str (cutS z i j))
  | .tup xs => Q (.tup (cutD xs i j))
  | .lst xs => Q (.lst (cutD xs i j))
  | _ => False
theorem oSlS_of {x : D} {i j : Option Int} {Q : D → Prop} (h : oSlS x i j Q) : (∃ z, x = .str z ∧ z.length ≤ sizeLine ∧ Q (.str (cutS z i j))) ∨ (∃ xs, x = .tup xs ∧ Q (.tup (cutD xs i j))) ∨ ∃ xs, x = .lst xs ∧ Q (.lst (cutD xs i j)) := by
  unfold oSlS at h
  split at h
  · exact .inl ⟨_, rfl, h.1, h.2⟩
  · exact .inr (.inl ⟨_, rfl, h⟩)
  · exact .inr (.inr ⟨_, rfl, h⟩)
  · exact h.elim
def dSlS (T : DTE) (l h : DTO) : DTE := fun ρ M Q E => T ρ M (fun x M1 => l ρ M1 (fun i M2 => h ρ M2 (fun j M3 => oSlS (drf M3 x) i j fun d => Q d M3) E) E) E
theorem cut_whole (xs : List D) (lo hi : Option Int) (h : HT.sIx xs.length 0 lo = 0 ∧ HT.sIx xs.length xs.length hi = xs.length) : cutD xs lo hi = xs := by
  unfold cutD
  rw [h.1, h.2]
  simp
theorem de_sl (he : DR X wx e T) (hl : DO X wx lo Tl) (hh : DO X wx hi Th) : DE X wx (.Subscript e (.Slice lo hi none p2) pos) (dSlS T Tl Th) := by
  obtain ⟨t, p, r⟩ := he
  obtain ⟨tl, pl, rl⟩ := hl
  obtain ⟨th, ph, rh⟩ := hh
  refine ⟨_, pe_slice (sl_str.or (sl_tupA.or sl_list)) p pl ph, fun W0 W m σ ρ M Q Qd Ed R k h1 h2 h3 => r W0 W m σ ρ M _ _ Ed R k h1 (fun d v W' m' M' q le k' hv => ?_) h3⟩
  refine rl W0 W' m' σ ρ M' _ _ Ed (R.mono le) k' q (fun i W2 m2 M2 q2 le2 k2 => ?_) (h3.up le)
  refine rh W0 W2 m2 σ ρ M2 _ _ Ed (R.mono (le.trans le2)) k2 q2 (fun j W3 m3 M3 q3 le3 k3 => ?_) (h3.up (le.trans le2))
  have hv := (hv.le (le2.trans le3)).drf k3
  have l3 := (le.trans le2).trans le3
  rcases oSlS_of q3 with ⟨z, e, hz, q3⟩ | ⟨xs, e, q3⟩ | ⟨xs, e, q3⟩ <;> rw [e] at hv
  · cases hv; exact .inl ⟨z, rfl, hz, h2 _ _ W3 m3 M3 q3 l3 k3 (.str _)⟩
  · cases hv with
    | tup s1 r1 =>
      rename_i a vs
      refine .inr (.inl ⟨a, vs, rfl, Evl.ex_t (W3.ok.trans (cat_ex W3.H m3)) s1, fun z => ?_, fun z p hp => ?_⟩)
      · rw [r1.length] at z
        rw [cut_whole xs i j z] at q3
        exact h2 _ _ W3 m3 M3 q3 l3 k3 (.tup s1 r1)
      · exact newT k3 hp (cut_of r1 i j) fun W4 l4 k4 r4 => h2 _ _ W4 m3 M3 q3 (l3.trans l4) k4 r4
  · obtain ⟨a1, vs1, rfl, s1, r1⟩ := hv
    exact .inr (.inr ⟨a1, vs1, rfl, s1, fun p hp => newL k3 hp (cut_of r1 i j) fun W4 l4 k4 r4 => h2 _ _ W4 m3 M3 q3 (l3.trans l4) k4 r4⟩)
def dCB (o : List D → (D → Prop) → Prop) (R : DTA) : DTE := fun ρ M Q E => R ρ M (fun ds M' => o (ds.map (drf M')) fun d => Q d M') E
def RfC (B : Bx) (r : List V → Hp → VK → Prop) (o : List D → (D → Prop) → Prop) : Prop := ∀ (W : Wd) (m : Hp) (M : Mu) (vs : List V) (ds : List D) (Q : VK) (Qd : D → Prop), MOk B W M m → RpRs B W.F (cat W.H m) vs ds → o ds Qd →
  (∀ d v W', Qd d → W.le W' → MOk B W' M m → Rp B W'.F v d → Q v (cat W'.H m)) → r vs (cat W.H m) Q
theorem rf_cb {B : Bx} {ms : List Bool} {t : TA} {R : DTA} {r : List V → Hp → VK → Prop} {o : List D → (D → Prop) → Prop} (h : RfM B wx ms t R) (hr : RfC B r o) : RfE B wx (tCB r t) (dCB o R) := fun W0 W m σ ρ M Q Qd Ed Re k h1 h2 h3 => by
  refine h W0 W m σ ρ M _ _ Ed Re k h1 (fun ds vs W' m' M' q le k' hv => ?_) h3
  exact hr W' m' M' vs _ Q _ k' (hv.reads k') q fun d v W'' q2 le2 k2 hv2 => h2 d v W'' m' M' q2 (le.trans le2) k2 hv2
theorem de_callB {x : Str} {id : String} {r : List V → Hp → VK → Prop} {o : List D → (D → Prop) → Prop} {ms : List Bool} {R : DTA} {p : Pos} (hc : CallR X (.builtin id) r) (hr : RfC (bx X) r o) (hm : X.mg x = none) (ha : DM X wx ms (e :: es) R) (hg : Gl X x := by rfl) (hv : bootBuiltins x = some (.builtin id) := by decide +kernel) (hn : x ≠ "__name__" := by decide) (hdb : (x == ("__debug__" : Str)) = false := by decide)
    (he : starEach (e :: es) X.env = (false, eval e X.env) :: starEach es X.env := by rfl) (hpl : (backTo pos (starEach es X.env)).any (·.1) = false := by rfl) : DE X wx (.Call (.Name x p) (e :: es) [] pos) (dCB o R) := by
  obtain ⟨t, pa, ra⟩ := ha
  exact ⟨_, pe_callB hc hg hm hv pa hn hdb he hpl, rf_cb ra hr⟩
theorem de_callTy {x : Str} {T : String} {r : List V → Hp → VK → Prop} {o : List D → (D → Prop) → Prop} {ms : List Bool} {R : DTA} {p : Pos} (hc : CallR X (.type T) r) (hr : RfC (bx X) r o) (hm : X.mg x = none) (ha : DM X wx ms (e :: es) R) (hg : Gl X x := by rfl) (hv : bootBuiltins x = some (.type T) := by decide +kernel) (hn : x ≠ "__name__" := by decide) (hdb : (x == ("__debug__" : Str)) = false := by decide)
    (he : starEach (e :: es) X.env = (false, eval e X.env) :: starEach es X.env := by rfl) (hpl : (backTo pos (starEach es X.env)).any (·.1) = false := by rfl) : DE X wx (.Call (.Name x p) (e :: es) [] pos) (dCB o R) := by
  obtain ⟨t, pa, ra⟩ := ha
  exact ⟨_, pe_callTy hc hg hm hv pa hn hdb he hpl, rf_cb ra hr⟩
theorem CallR.or {f : Value} {r r' : List V → Hp → VK → Prop} (h : CallR X f r) (h' : CallR X f r') : CallR X f (fun x H Q => r x H Q ∨ r' x H Q) := by
  intro pins s σ H xs us Q I r q
  rcases q with q | q
  · exact h pins s σ H xs us Q I r q
  · exact h' pins s σ H xs us Q I r q
def oAbs (ds : List D) (Q : D → Prop) : Prop := match ds with
  | [.int i] => Q (.int (if i < 0 then -i else i))
  | _ => False
def oMax2 (ds : List D) (Q : D → Prop) : Prop := match ds with
  | [.int i, .int j] => Q (.int (if j > i then j else i))
  | _ => False
def oMin2 (ds : List D) (Q : D → Prop) : Prop := match ds with
  | [.int i, .int j] => Q (.int (if j < i then j else i))
  | _ => False
def oLen (ds : List D) (Q : D → Prop) : Prop := match ds with
  | [.str y] => y.length ≤ sizeLine ∧ Q (.int y.length)
  | [.lst xs] => Q (.int xs.length)
  | [.tup xs] => Q (.int xs.length)
  | [.dic _ ks] => Q (.int ks.length)
  | _ => False
theorem call_lenA : CallR X (.builtin "len") (fun xs H Q => (∃ x n, xs = [x] ∧ LenV X.K x H n ∧ Q (.int n) H) ∨ rLenX (bx X) xs H Q) := CallR.or call_len call_lenX
theorem rf_len {B : Bx} : RfC B (fun xs H Q => (∃ x n, xs = [x] ∧ LenV B.K x H n ∧ Q (.int n) H) ∨ rLenX B xs H Q) oLen := by
  intro W m M vs ds Q Qd mk rs h k
  have ok := W.ok.trans (cat_ex W.H m)
  unfold oLen at h
  split at h
  · cases rs with
    | cons r t => cases t; cases r; exact .inl ⟨_, _, rfl, ⟨h.1, rfl⟩, k _ _ W h.2 (Wd.le.refl W) mk (.int _)⟩
  · cases rs with
    | cons r t =>
      cases t
      obtain ⟨a, vs, rfl, h1, h2⟩ := r
      exact .inl ⟨_, _, rfl, .inl ⟨vs, h1, rfl⟩, by rw [h2.length]; exact k _ _ W h (Wd.le.refl W) mk (.int _)⟩
  · cases rs with
    | cons r t =>
      cases t
      cases r with
      | tup h1 h2 => exact .inl ⟨_, _, rfl, .inr ⟨_, Evl.ex_t ok h1, rfl⟩, by rw [h2.length]; exact k _ _ W h (Wd.le.refl W) mk (.int _)⟩
  · cases rs with
    | cons r t =>
      cases t
      obtain ⟨a, rfl, h1⟩ := r
      exact .inr ⟨W.F, a, _, _, ok, rfl, h1, k _ _ W h (Wd.le.refl W) mk (.int _)⟩
  · exact h.elim
def oInt1 (ds : List D) (Q : D → Prop) : Prop := match ds with
  | [.int i] => Q (.int i)
  | [.bl k] => Q (.int (if k then 1 else 0))
  | [.str a] => ∃ n, PySem.intText? a = some n ∧ a.length ≤ 640 ∧ Q (.int n)
  | _ => False
def oStr1 (ds : List D) (Q : D → Prop) : Prop := match ds with
  | [.int i] => i.natAbs.log2 < 1920 ∧ Q (.str (toString i))
  | _ => False
def tyS : D → Option String
  | .non => some "NoneType"
  | .bl _ => some "bool"
  | .int _ => some "int"
  | .str _ => some "str"
  | .lst _ => some "list"
  | .tup _ => some "tuple"
  | _ => none
theorem tyX_of {B : Bx} {F H : Hp} (ok : Ex F H) {v : V} {d : D} {n : String} (h : RpR B F H v d) (e : tyS d = some n) : TyX B.K H v (.type n) := by
  cases d with
  | non => cases h; cases e; exact .base .non
  | bl b => cases h; cases e; exact .base (.bl b)
  | int b => cases h; cases e; exact .base (.int b)
  | str b => cases h; cases e; exact .base (.str b)
  | lst ds =>
    cases e
    obtain ⟨a, vs, rfl, h1, h2⟩ := h
    rcases h1 with (h1 | ⟨o, h1⟩) | ⟨o, its, n, h1, h2, _⟩
    · exact .base (.lst h1)
    · exact .base (.frz h1)
    · exact .kList h1 h2
  | tup ds =>
    cases e
    cases h with
    | tup h1 h2 =>
      rcases Evl.ex_t ok h1 with (h1 | ⟨o, h1⟩) | ⟨o, its, n, h1, h2, _⟩
      · exact .base (.tup h1)
      · exact .fTuple h1
      · exact .kTuple h1 h2
  | _ => cases e
def isD (n : String) (d : D) : Bool := match tyS d with
  | some m => m == n || (m == "bool" && n == "int")
  | none => false
def oIsi (n : String) (ds : List D) (Q : D → Prop) : Prop := match ds with
  | [d, .ty m] => m = n ∧ (tyS d).isSome = true ∧ Q (.bl (isD n d))
  | _ => False
theorem rf_isi {B : Bx} {n : String} (hn : ∀ m, m = "NoneType" ∨ m = "bool" ∨ m = "int" ∨ m = "str" ∨ m = "list" ∨ m = "tuple" → kitB m n = some (m == n || (m == "bool" && n == "int"))) : RfC B (rIsi B.K) (oIsi n) := by
  intro W m M vs ds Q Qd mk rs h k
  have ok := W.ok.trans (cat_ex W.H m)
  unfold oIsi at h
  split at h
  · rename_i d m
    obtain ⟨rfl, h1, q⟩ := h
    cases rs with
    | cons r t =>
      cases t with
      | cons r2 t =>
        cases t
        cases r2
        cases z : tyS d with
        | none => rw [z] at h1; cases h1
        | some mm =>
          refine ⟨_, _, .type mm, .type m, isD m d, rfl, .ty m, tyX_of ok r z, kit_ty ?_, k _ _ W q (Wd.le.refl W) mk (.bl _)⟩
          have : isD m d = (mm == m || (mm == "bool" && m == "int")) := by unfold isD; rw [z]
          rw [this]
          refine hn mm ?_
          cases d <;> cases z <;> simp
  · exact h.elim
theorem isi_tuple : ∀ m, m = "NoneType" ∨ m = "bool" ∨ m = "int" ∨ m = "str" ∨ m = "list" ∨ m = "tuple" → kitB m "tuple" = some (m == "tuple" || (m == "bool" && "tuple" == "int")) := by
  rintro m (rfl | rfl | rfl | rfl | rfl | rfl) <;> decide +kernel
def oTuple1 (ds : List D) (Q : D → Prop) : Prop := match ds with
  | [.lst xs] => Q (.tup xs)
  | [.tup xs] => Q (.tup xs)
  | _ => False
theorem rf_tuple1 {B : Bx} : RfC B (fun xs H Q => ∃ p ys, xs = [.ref p] ∧ ((SqL B.K H p ys ∧ ∀ l, H l = none → Q (.ref l) (upd H l (.tup ys))) ∨ (SqT B.K H p ys ∧ Q (.ref p) H))) oTuple1 := by
  intro W m M vs ds Q Qd mk rs h k
  have ok := W.ok.trans (cat_ex W.H m)
  unfold oTuple1 at h
  split at h
  · cases rs with
    | cons r t =>
      cases t
      obtain ⟨a, vs, rfl, h1, h2⟩ := r
      exact ⟨a, vs, rfl, .inl ⟨h1, fun l hl => newT mk hl h2 fun W' le mk' r => k _ _ W' h le mk' r⟩⟩
  · cases rs with
    | cons r t =>
      cases t
      cases r with
      | tup h1 h2 => exact ⟨_, _, rfl, .inr ⟨Evl.ex_t ok h1, k _ _ W h (Wd.le.refl W) mk (.tup h1 h2)⟩⟩
  · exact h.elim
def oList1 (ds : List D) (Q : List D → Prop) : Prop := match ds with
  | [.lst xs] => Q xs
  | [.tup xs] => Q xs
  | _ => False
theorem oList1_of {ds : List D} {Q : List D → Prop} (h : oList1 ds Q) : (∃ xs, ds = [.lst xs] ∧ Q xs) ∨ ∃ xs, ds = [.tup xs] ∧ Q xs := by
  unfold oList1 at h
  split at h
  · exact .inl ⟨_, rfl, h⟩
  · exact .inr ⟨_, rfl, h⟩
  · exact h.elim
def dList1 (R : DTA) : DTA := fun ρ M Q E => R ρ M (fun ds M' => oList1 (ds.map (drf M')) fun xs => Q xs M') E
theorem dn_list {ms : List Bool} {R : DTA} {p : Pos} (hm : X.mg "list" = none) (ha : DM X wx ms [e] R) (hg : Gl X "list" := by rfl)
    (he : starEach (e :: []) X.env = (false, eval e X.env) :: starEach [] X.env := by rfl) (hpl : (backTo pos (starEach [] X.env)).any (·.1) = false := by rfl) : DN X wx (.Call (.Name "list" p) [e] [] pos) (dList1 R) := by
  obtain ⟨t, pa, ra⟩ := ha
  refine ⟨_, pe_callTy call_list_of hg hm (by decide +kernel) pa (by decide) (by decide) he hpl, fun W0 W m σ ρ M Q Qd Ed Re k h1 h2 h3 => ra W0 W m σ ρ M _ _ Ed Re k h1 (fun ds vs W' m' M' q le k' hv => ?_) h3⟩
  have hr := hv.reads k'
  have ok := W'.ok.trans (cat_ex W'.H m')
  rcases oList1_of q with ⟨xs, e, q⟩ | ⟨xs, e, q⟩ <;> rw [e] at hr
  · cases hr with
    | cons r t =>
      cases t
      obtain ⟨a, vs, rfl, s1, s2⟩ := r
      exact ⟨a, vs, rfl, .inl s1, fun l hl => newO le k' hl s2 fun W4 l4 k4 h4 h5 h6 h7 => h2 _ l _ W4 m' M' q l4 k4 h4 h5 h6 h7⟩
  · cases hr with
    | cons r t =>
      cases t
      cases r with
      | tup s1 s2 => exact ⟨_, _, rfl, .inr (Evl.ex_t ok s1), fun l hl => newO le k' hl s2 fun W4 l4 k4 h4 h5 h6 h7 => h2 _ l _ W4 m' M' q l4 k4 h4 h5 h6 h7⟩
end
end Z
namespace Z
open PySem L2
open Evl (Ex)
end Z
namespace Z
open PySem PySem.Spec PyProof.Rows L2
open Evl (Ex)
structure EndsOk (B : Bx) (wx : WX) (W0 : Wd) (D : Ends) (DD : DEnds) : Prop where
  nx : ∀ W m σ ρ M, Rel B W0 W σ ρ → MOk B W M m → DD.nx ρ M → D.nx σ (cat W.H m)
  rt : ∀ d v W m M, W0.le W → MOk B W M m → Rp B W.F v d → DD.rt d M → D.rt v (cat W.H m)
  bk : ∀ W m σ ρ M, Rel B W0 W σ ρ → MOk B W M m → DD.bk ρ M → D.bk σ (cat W.H m)
  ct : ∀ W m σ ρ M, Rel B W0 W σ ρ → MOk B W M m → DD.ct ρ M → D.ct σ (cat W.H m)
  ex : ∀ C W m σ ρ M, Rel B W0 W σ ρ → MOk B W M m → DD.ex C ρ M → wx (.ref (B.cl C)) none σ (cat W.H m)
def RfS (B : Bx) (wx : WX) (t : TS) (T : DTS) : Prop := ∀ (W0 W : Wd) (m : Hp) (σ : L2.St) (ρ : List Ent) (M : Mu) (D : Ends) (DD : DEnds), Rel B W0 W σ ρ → MOk B W M m → T DD ρ M → EndsOk B wx W0 D DD → t D σ (cat W.H m)
def DS (X : Cx) (wx : WX) (st : Stmt) (T : DTS) : Prop := ∃ t, PS X st t ∧ RfS (bx X) wx t T
def DSs (X : Cx) (wx : WX) (st : List Stmt) (T : DTS) : Prop := ∃ t, PSs X st t ∧ RfS (bx X) wx t T
section
variable {X : Cx} {wx : WX} {e a b c : Expr} {es : List Expr} {T Ta Tb Tc : DTE} {pos : Pos} {U U' : DTT} {st : Stmt} {rest body : List Stmt} {S S' : DTS}
def dNext : DTS := fun DD ρ M => DD.nx ρ M
def dSeq (S S' : DTS) : DTS := fun DD ρ M => S { DD with nx := S' DD } ρ M
theorem dss_nil : DSs X wx [] dNext := ⟨_, pss_nil, fun W0 W m σ ρ M D DD R mk h k => k.nx W m σ ρ M R mk h⟩
theorem dss_cons (h1 : DS X wx st S) (h2 : DSs X wx rest S') : DSs X wx (st :: rest) (dSeq S S') := by
  obtain ⟨t, p, r⟩ := h1
  obtain ⟨t', p', r'⟩ := h2
  refine ⟨_, pss_cons p p', fun W0 W m σ ρ M D DD R mk h k => ?_⟩
  exact r W0 W m σ ρ M _ _ R mk h ⟨fun W' m' σ' ρ' M' R' mk' h' => r' W0 W' m' σ' ρ' M' D DD R' mk' h' k, k.rt, k.bk, k.ct, k.ex⟩
def dCut (S S' : DTS) : DTS := fun DD ρ M => ∃ I : List Ent → Mu → Prop, S { DD with nx := I } ρ M ∧ ∀ ρ' M', I ρ' M' → S' DD ρ' M'
theorem dss_cut (h1 : DS X wx st S) (h2 : DSs X wx rest S') : DSs X wx (st :: rest) (dCut S S') := by
  obtain ⟨t, p, r⟩ := h1
  obtain ⟨t', p', r'⟩ := h2
  refine ⟨_, pss_cons p p', fun W0 W m σ ρ M D DD R mk ⟨I, h, hi⟩ k => ?_⟩
  exact r W0 W m σ ρ M _ _ R mk h ⟨fun W' m' σ' ρ' M' R' mk' h' => r' W0 W' m' σ' ρ' M' D DD R' mk' (hi ρ' M' h') k, k.rt, k.bk, k.ct, k.ex⟩
theorem dss_one (h1 : DS X wx st S) : DSs X wx [st] S := by
  obtain ⟨t, p, r⟩ := h1
  exact ⟨_, pss_one p, r⟩
def frzE (i : Nat) (ρ : List Ent) : List Ent := match ga ρ i with
  | .own ds => ρ.set i (.dat (.lst ds))
  | .dk t ks => ρ.set i (.dat (.dic t ks))
  | _ => ρ
theorem Rel.frz {B : Bx} {W0 W : Wd} {m : Hp} {σ : L2.St} {ρ : List Ent} {M : Mu} (R : Rel B W0 W σ ρ) (mk : MOk B W M m) (i : Nat) : ∃ W', W'.H = W.H ∧ MOk B W' M m ∧ Rel B W0 W' σ (frzE i ρ) := by
  obtain ⟨le, len, ad, h3, h4⟩ := id R
  have q := h4 i
  have main : ∀ (o : HO) (d : D), (ga ρ i).ownd = true → W.H (ad i) = some o → W.F (ad i) = none → W0.H (ad i) = none → σ[i]? = some (some (.ref (ad i))) → (∀ F', Ex W.F F' → F' (ad i) = some o → Rp B F' (.ref (ad i)) d) → i < ρ.length →
      ∃ W', W'.H = W.H ∧ MOk B W' M m ∧ Rel B W0 W' σ (ρ.set i (.dat d)) := fun o d ow hH hF h0 hs hv hl => by
    have exF : Ex W.F (upd W.F (ad i) o) := upd_ex hF
    refine ⟨W.frz (ad i) o hH, rfl, mk.frz hH hF, ⟨le.f.trans exF, le.h, fun a z1 z2 => ?_⟩, by rw [List.length_set]; exact len, ad, fun j k hjk hj hk => ?_, fun j => ?_⟩
    · show upd W.F (ad i) o a = none
      rw [upd_ne (fun y => by subst y; exact z1 h0)]; exact le.n a z1 z2
    · rw [ga_set, if_pos hl] at hj hk
      split at hj
      · cases hj
      · split at hk
        · cases hk
        · exact h3 j k hjk hj hk
    · rw [ga_set]
      by_cases z : i = j
      · subst z
        rw [if_pos rfl, if_pos hl]
        exact ⟨_, hs, hv _ exF upd_same⟩
      · rw [if_neg z]
        have q := h4 j
        have keep : ∀ a', (ga ρ j).ownd = true → a' = ad j → W.F a' = none → upd W.F (ad i) o a' = none := fun a' oj e hn => by
          rw [upd_ne (fun y => h3 i j z ow oj (y.symm.trans e))]; exact hn
        cases y : ga ρ j with
        | un => trivial
        | dat d => rw [y] at q; obtain ⟨v, q1, q2⟩ := q; exact ⟨v, q1, q2.mono exF⟩
        | own ds => rw [y] at q keep; obtain ⟨vs, q1, q2, q3, q4, q5⟩ := q; exact ⟨vs, q1, q2, keep _ rfl rfl q3, q4, q5.mono exF⟩
        | bor d => rw [y] at q; obtain ⟨v, q1, q2⟩ := q; exact ⟨v, q1, q2.imp (fun z => z.monoF exF) fun z => z.mono exF⟩
        | dk t ds => rw [y] at q keep; obtain ⟨q1, q2, q3, q4⟩ := q; exact ⟨q1, q2.mono exF, keep _ rfl rfl q3, q4⟩
  unfold frzE
  have hl : ga ρ i ≠ .un → i < ρ.length := ga_lt
  cases y : ga ρ i with
  | un => exact ⟨W, rfl, mk, R⟩
  | dat d => exact ⟨W, rfl, mk, R⟩
  | bor d => exact ⟨W, rfl, mk, R⟩
  | own ds =>
    rw [y] at q hl
    obtain ⟨vs, q1, q2, q3, q4, q5⟩ := q
    exact main _ (.lst ds) (by rw [y]; rfl) q2 q3 q4 q1 (fun F' ex hf => .lst (SqL.of hf) (q5.mono ex)) (hl (fun z => by cases z))
  | dk t ds =>
    rw [y] at q hl
    obtain ⟨q1, q2, q3, q4⟩ := q
    rcases q2 with ⟨rfl, kv, ob, y1, y2⟩ | ⟨rfl, xs, ob, y1, y2⟩
    · exact main _ (.dic false ds) (by rw [y]; rfl) y1 q3 q4 q1 (fun F' ex hf => .dic hf (y2.mono ex)) (hl (fun z => by cases z))
    · exact main _ (.dic true ds) (by rw [y]; rfl) y1 q3 q4 q1 (fun F' ex hf => .dit hf (y2.mono ex)) (hl (fun z => by cases z))
def dFrz (i : Nat) (S : DTS) : DTS := fun DD ρ M => S DD (frzE i ρ) M
theorem ds_frz (i : Nat) (h : DS X wx st S) : DS X wx st (dFrz i S) := by
  obtain ⟨t, p, r⟩ := h
  refine ⟨t, p, fun W0 W m σ ρ M D DD R mk h k => ?_⟩
  obtain ⟨W', e, mk', R'⟩ := R.frz mk i
  have q := r W0 W' m σ _ M D DD R' mk' h k
  rw [e] at q
  exact q
abbrev DTG := D → List Ent → (List Ent → Prop) → Prop
def RfG (B : Bx) (g : TG) (G : DTG) : Prop := ∀ (W0 W : Wd) (m : Hp) (σ : L2.St) (ρ : List Ent) (v : V) (d : D) (Q : L2.St → Hp → Prop) (Qd : List Ent → Prop), Rel B W0 W σ ρ → Rp B W.F v d → G d ρ Qd → (∀ σ' ρ', Rel B W0 W σ' ρ' → Qd ρ' → Q σ' (cat W.H m)) → g v σ (cat W.H m) Q
def DG (X : Cx) (tg : Expr) (G : DTG) : Prop := ∃ g, PG X tg g ∧ RfG (bx X) g G
abbrev DTGs := List D → List Ent → (List Ent → Prop) → Prop
variable {tg : Expr} {G : DTG} {Gs : DTGs} {tgs : List Expr}
def dgName (i : Nat) : DTG := fun d ρ Q => Q (ρ.set i (.dat d))
theorem dg_name {i : Nat} {x : Str} (hN : X.N.Nodup) (hi : X.N[i]? = some x := by rfl) (hx : Loc X.env.scope x := by first | exact Or.inl rfl | exact Or.inr rfl) (hf : X.fn x = true ∨ X.env.scope.names.lookup x = some .local := by first | exact .inl rfl | exact .inr rfl) : DG X (.Name x pos) (dgName i) :=
  ⟨_, pg_name hN hi hx hf, fun W0 W m σ ρ v d Q Qd R r h k => k _ _ (R.set r) h⟩
def dgNil : DTGs := fun ds ρ Q => ds = [] ∧ Q ρ
def dgCons (G : DTG) (Gs : DTGs) : DTGs := fun ds ρ Q => match ds with | d :: r => G d ρ fun ρ' => Gs r ρ' Q | [] => False
def dgTup (n : Nat) (Gs : DTGs) : DTG := fun d ρ Q => match d with | .tup ds => ds.length = n ∧ Gs ds ρ Q | _ => False
def dAsg (i : Nat) (T : DTE) : DTS := fun DD ρ M => T ρ M (fun d => DD.nx (ρ.set i (.dat d))) fun C => DD.ex C ρ
theorem ds_set {i : Nat} {x : Str} {pos' : Pos} (hN : X.N.Nodup) (he : DE X wx e T) (hi : X.N[i]? = some x := by rfl) (hx : Loc X.env.scope x := by first | exact Or.inl rfl | exact Or.inr rfl) (hs : swapsWith e (some (.Name x pos')) pos.line X.env = pure false := by rfl)
    (hf : X.fn x = true ∨ X.env.scope.names.lookup x = some .local := by first | exact .inl rfl | exact .inr rfl) : DS X wx (.Assign [.Name x pos'] e pos) (dAsg i T) := by
  obtain ⟨t, p, r⟩ := he
  refine ⟨_, ps_set hN hi hx p hs hf, fun W0 W m σ ρ M D DD R mk h k => r W0 W m σ ρ M _ _ _ R mk h (fun d v W' m' M' q le mk' hv => ?_) fun C W' m' M' q le mk' => k.ex C W' m' σ ρ M' (R.mono le) mk' q⟩
  exact k.nx W' m' _ _ M' ((R.mono le).set hv) mk' q
def dOwn (i : Nat) (T : DTA) : DTS := fun DD ρ M => T ρ M (fun ds => DD.nx (ρ.set i (.own ds))) fun C => DD.ex C ρ
theorem own_nx {B : Bx} {W0 W W' : Wd} {σ : L2.St} {ρ : List Ent} {p : Addr} {vs : List V} {ds : List D} {i : Nat} (R : Rel B W0 W σ ρ) (le : W.le W') (hn : W.H p = none) (hp : W'.H p = some (.lst vs)) (hf : W'.F p = none) (hv : RpAll B W'.F vs ds) : Rel B W0 W' (σ.set i (some (.ref p))) (ρ.set i (.own ds)) :=
  R.store (b := p) le (fun hl => ⟨vs, List.getElem?_set_self (by rw [R.len]; exact hl), hp, hf, ex_none R.le.h hn, hv⟩) fun _ => hn
theorem ds_own {i : Nat} {x : Str} {pos' : Pos} {T : DTA} (hN : X.N.Nodup) (he : DN X wx e T) (hi : X.N[i]? = some x := by rfl) (hx : Loc X.env.scope x := by first | exact Or.inl rfl | exact Or.inr rfl) (hs : swapsWith e (some (.Name x pos')) pos.line X.env = pure false := by rfl)
    (hf : X.fn x = true ∨ X.env.scope.names.lookup x = some .local := by first | exact .inl rfl | exact .inr rfl) : DS X wx (.Assign [.Name x pos'] e pos) (dOwn i T) := by
  obtain ⟨t, p, r⟩ := he
  refine ⟨_, ps_set hN hi hx p hs hf, fun W0 W m σ ρ M D DD R mk h k => r W0 W m σ ρ M _ _ _ R mk h (fun ds p vs W' m' M' q le mk' hn hp hf hv => ?_) fun C W' m' M' q le mk' => k.ex C W' m' σ ρ M' (R.mono le) mk' q⟩
  exact k.nx W' m' _ _ M' (own_nx R le hn hp hf hv) mk' q
def dAsgG (T : DTE) (G : DTG) : DTS := fun DD ρ M => T ρ M (fun d M' => G d ρ fun ρ' => DD.nx ρ' M') fun C => DD.ex C ρ
def dPar (i j : Nat) (R : DTA) : DTS := fun DD ρ M => R ρ M (fun ds M' => match ds with | [x, y] => DD.nx ((ρ.set i (.dat x)).set j (.dat y)) M' | _ => False) fun C => DD.ex C ρ
def dAugI (i : Nat) (f : Int → Int → Int) (T : DTE) : DTS := fun DD ρ M => match ga ρ i with
  | .dat (.int x) => T ρ M (fun d M' => match d with | .int y => DD.nx (ρ.set i (.dat (.int (f x y)))) M' | _ => False) fun C => DD.ex C ρ
  | _ => False
def dDrop (T : DTE) : DTS := fun DD ρ M => T ρ M (fun _ => DD.nx ρ) fun C => DD.ex C ρ
theorem ds_expr (he : DE X wx e T) (hs : swapsWith e none pos.line X.env = pure false := by rfl) : DS X wx (.Expr e pos) (dDrop T) := by
  obtain ⟨t, p, r⟩ := he
  exact ⟨_, ps_expr p hs, fun W0 W m σ ρ M D DD R mk h k => r W0 W m σ ρ M _ _ _ R mk h (fun d v W' m' M' q le mk' hv => k.nx W' m' σ ρ M' (R.mono le) mk' q) fun C W' m' M' q le mk' => k.ex C W' m' σ ρ M' (R.mono le) mk' q⟩
def dRet (T : DTE) : DTS := fun DD ρ M => T ρ M DD.rt fun C => DD.ex C ρ
theorem ds_ret (he : DE X wx e T) : DS X wx (.Return (some e) pos) (dRet T) := by
  obtain ⟨t, p, r⟩ := he
  exact ⟨_, ps_ret p, fun W0 W m σ ρ M D DD R mk h k => r W0 W m σ ρ M _ _ _ R mk h (fun d v W' m' M' q le mk' hv => k.rt d v W' m' M' (R.le.trans le) mk' hv q) fun C W' m' M' q le mk' => k.ex C W' m' σ ρ M' (R.mono le) mk' q⟩
def dRetN : DTS := fun DD _ M => DD.rt .non M
def dBreak : DTS := fun DD ρ M => DD.bk ρ M
def dCont : DTS := fun DD ρ M => DD.ct ρ M
def dIf (U : DTT) (S S' : DTS) : DTS := fun DD ρ M => U ρ M (fun b M' => if b = true then S DD ρ M' else S' DD ρ M') fun C => DD.ex C ρ
theorem ds_if {body orelse : List Stmt} (hc : DT X wx c U) (ha : DSs X wx body S) (hb : DSs X wx orelse S') : DS X wx (.If c body orelse pos) (dIf U S S') := by
  obtain ⟨t, p, r⟩ := hc
  obtain ⟨ta, pa, ra⟩ := ha
  obtain ⟨tb, pb, rb⟩ := hb
  refine ⟨_, ps_if p pa pb, fun W0 W m σ ρ M D DD R mk h k => r W0 W m σ ρ M _ _ _ R mk h (fun b W' m' M' q le mk' => ?_) fun C W' m' M' q le mk' => k.ex C W' m' σ ρ M' (R.mono le) mk' q⟩
  cases b with
  | true => exact ra W0 W' m' σ ρ M' D DD (R.mono le) mk' q k
  | false => exact rb W0 W' m' σ ρ M' D DD (R.mono le) mk' q k
def ItOk (B : Bx) (W0 W1 : Wd) (J : It) (xs : List D) : Prop := ∀ (i : Nat) (W : Wd) (m : Hp) (M : Mu), W0.le W → Ex W1.F W.F → MOk B W M m →
  (∀ d, xs[i]? = some d → J.go i (cat W.H m) ∧ ∀ x H', J.yld i (cat W.H m) x H' → ∃ W', W.le W' ∧ cat W'.H m = H' ∧ MOk B W' M m ∧ Rp B W'.F x d) ∧ (xs.length ≤ i → J.stop i (cat W.H m))
def RfI (B : Bx) (wx : WX) (wi : TI) (T : DTA) : Prop := ∀ (W0 W : Wd) (m : Hp) (σ : L2.St) (ρ : List Ent) (M : Mu) (Q : It → Hp → Prop) (Qd : List D → Mu → Prop) (Ed : Str → Mu → Prop), Rel B W0 W σ ρ → MOk B W M m → T ρ M Qd Ed →
  (∀ xs J W' m' M', Qd xs M' → W.le W' → MOk B W' M' m' → ItOk B W0 W' J xs → Q J (cat W'.H m')) → ExK B wx W σ Ed → wi σ (cat W.H m) Q
def DI (X : Cx) (wx : WX) (tg iter : Expr) (T : DTA) : Prop := ∃ wi, PI X tg iter wi ∧ RfI (bx X) wx wi T
def dForI (G : DTG) (S : DTS) (DD : DEnds) (xs : List D) (ρ : List Ent) (M : Mu) : Prop := ∃ I : Nat → List Ent → Mu → Prop, I 0 ρ M ∧
  (∀ i x, xs[i]? = some x → ∀ ρ' M', I i ρ' M' → G x ρ' fun ρ2 => S { DD with nx := I (i + 1), ct := I (i + 1), bk := DD.nx } ρ2 M') ∧ ∀ ρ' M', I xs.length ρ' M' → DD.nx ρ' M'
def dFor (T : DTA) (G : DTG) (S : DTS) : DTS := fun DD ρ M => T ρ M (fun xs M' => dForI G S DD xs ρ M') fun C => DD.ex C ρ
variable {iter : Expr} {Ti : DTA}
theorem EndsOk.re {B : Bx} {W0 W1 : Wd} {D : Ends} {DD : DEnds} (k : EndsOk B wx W0 D DD) (le : W0.le W1) : EndsOk B wx (W0.re W1 le) D DD :=
  ⟨fun W m σ ρ M R mk h => k.nx W m σ ρ M R.back mk h, fun d v W m M l mk r h => k.rt d v W m M (Wd.re_back l) mk r h, fun W m σ ρ M R mk h => k.bk W m σ ρ M R.back mk h, fun W m σ ρ M R mk h => k.ct W m σ ρ M R.back mk h, fun C W m σ ρ M R mk h => k.ex C W m σ ρ M R.back mk h⟩
theorem ds_for (hp : PassesOwn (model X.prog X.w) X.A X.env X.xe) (hc : X.calm = true) (hi : DI X wx tg iter Ti) (hg : DG X tg G) (hb : DSs X wx body S) (hs : ∀ x, foldedSetIterable iter X.env x = pure x := by intro _; rfl) : DS X wx (.For tg iter body [] pos) (dFor Ti G S) := by
  obtain ⟨wi, p, r⟩ := hi
  obtain ⟨g, pg, rg⟩ := hg
  obtain ⟨tb, pb, rb⟩ := hb
  refine ⟨_, ps_for hp hc p pg pb hs, fun W0 W m σ ρ M D DD R mk h k => r W0 W m σ ρ M _ _ _ R mk h (fun xs J W1 m1 M1 q le mk1 ok => ?_) fun C W' m' M' q le mk' => k.ex C W' m' σ ρ M' (R.mono le) mk' q⟩
  have R1 := R.mono le
  have k1 := k.re R1.le
  obtain ⟨I, i0, istep, iend⟩ := q
  refine ⟨fun i n σ H => ∃ W m ρ M, cat W.H m = H ∧ Rel (bx X) (W0.re W1 R1.le) W σ ρ ∧ MOk (bx X) W M m ∧ i + n = xs.length ∧ I i ρ M, ⟨xs.length, W1, m1, ρ, M1, rfl, R1.re, mk1, Nat.zero_add _, i0⟩, ?_⟩
  rintro i n σ H ⟨W, m, ρ, M, rfl, R, mk, hm, q⟩
  obtain ⟨go, stop⟩ := ok i W m M R.back.le R.le.f mk
  cases z : xs[i]? with
  | none =>
    have hl : xs.length ≤ i := List.getElem?_eq_none_iff.mp z
    have e : i = xs.length := by omega
    subst e
    exact .inl ⟨stop hl, k1.nx W m σ ρ M R mk (iend ρ M q)⟩
  | some d =>
    obtain ⟨g1, g2⟩ := go d z
    obtain ⟨hl, e⟩ := List.getElem?_eq_some_iff.mp z
    refine .inr ⟨g1, fun σ' H' => ∃ W m ρ M, cat W.H m = H' ∧ Rel (bx X) (W0.re W1 R1.le) W σ' ρ ∧ MOk (bx X) W M m ∧ I (i + 1) ρ M, fun σ' H' ⟨W, m, ρ, M, e1, e2, e3, e4⟩ => ⟨n - 1, by omega, W, m, ρ, M, e1, e2, e3, by omega, e4⟩, fun x H' y => ?_⟩
    obtain ⟨W', le', e', mk', rv⟩ := g2 x H' y
    subst e'
    refine rg _ W' m σ ρ x d _ _ (R.mono le') rv (istep i d z ρ M q) fun σ' ρ' R' h' => ?_
    exact rb _ W' m σ' ρ' M _ _ R' mk' h' ⟨fun W m σ ρ M R mk h => ⟨W, m, ρ, M, rfl, R, mk, h⟩, k1.rt, k1.nx, fun W m σ ρ M R mk h => ⟨W, m, ρ, M, rfl, R, mk, h⟩, k1.ex⟩
theorem itl_ok {B : Bx} {W0 W1 : Wd} {a : Addr} {vs : List V} {ds : List D} (hs : ∀ W, W0.le W → Ex W1.F W.F → SqL B.K W.H a vs) (hv : RpAll B W1.F vs ds) : ItOk B W0 W1 (Itl B.K a) ds := fun i W m M le ex mk => by
  have sq := Evl.ex_l (cat_ex W.H m) (hs W le ex)
  refine ⟨fun d hd => ?_, fun hl => ⟨vs, sq, by rw [hv.length]; exact hl⟩⟩
  obtain ⟨v, h1, h2⟩ := hv.get hd
  refine ⟨⟨vs, v, sq, h1⟩, fun x H' y => ?_⟩
  obtain ⟨rfl, y⟩ := y
  have := y vs sq
  rw [h1] at this
  cases this
  exact ⟨W, Wd.le.refl W, rfl, mk, h2.mono ex⟩
theorem itt_ok {B : Bx} {W0 W1 : Wd} {a : Addr} {vs : List V} {ds : List D} (hs : ∀ W, W0.le W → Ex W1.F W.F → SqT B.K W.H a vs) (hv : RpAll B W1.F vs ds) : ItOk B W0 W1 (Itt B.K a) ds := fun i W m M le ex mk => by
  have sq := Evl.ex_t (cat_ex W.H m) (hs W le ex)
  refine ⟨fun d hd => ?_, fun hl => ⟨vs, sq, by rw [hv.length]; exact hl⟩⟩
  obtain ⟨v, h1, h2⟩ := hv.get hd
  refine ⟨⟨vs, v, sq, h1⟩, fun x H' y => ?_⟩
  obtain ⟨rfl, y⟩ := y
  have := y vs sq
  rw [h1] at this
  cases this
  exact ⟨W, Wd.le.refl W, rfl, mk, h2.mono ex⟩
def dItB (i : Nat) : DTA := fun ρ M Q _ => match ga ρ i with | .bor (.lst ds) => Q ds M | .dat (.lst ds) => Q ds M | _ => False
def rngD (lo : Int) (n : Nat) : List D := (List.range n).map fun i => D.int (lo + (i : Nat))
theorem itr_ok {B : Bx} {W0 W1 : Wd} (lo : Int) (n : Nat) : ItOk B W0 W1 (Itr lo n) (rngD lo n) := fun i W m M le ex mk => by
  refine ⟨fun d hd => ?_, fun hl => by show n ≤ i; simpa [rngD] using hl⟩
  unfold rngD at hd
  rw [List.getElem?_map] at hd
  cases z : (List.range n)[i]? with
  | none => rw [z] at hd; cases hd
  | some j =>
    obtain ⟨hl, e⟩ := List.getElem?_eq_some_iff.mp z
    rw [List.getElem_range] at e
    subst e
    rw [z] at hd
    cases hd
    refine ⟨by show i < n; simpa using hl, fun x H' y => ?_⟩
    obtain ⟨rfl, rfl⟩ := y
    exact ⟨W, Wd.le.refl W, rfl, mk, .int _⟩
def dRng1 (R : DTA) : DTA := fun ρ M Q E => R ρ M (fun ds M' => match ds with | [.int j] => -(2 ^ 62) ≤ j ∧ j < 2 ^ 62 ∧ Q (rngD 0 j.toNat) M' | _ => False) E
def dRng2 (R : DTA) : DTA := fun ρ M Q E => R ρ M (fun ds M' => match ds with | [.int i, .int j] => (-(2 ^ 62) ≤ i ∧ i < 2 ^ 62 ∧ -(2 ^ 62) ≤ j ∧ j < 2 ^ 62) ∧ Q (rngD i (j - i).toNat) M' | _ => False) E
theorem rp_int {B : Bx} {F H : Hp} {v : V} {j : Int} (h : RpR B F H v (.int j)) : v = .int j := by cases h; rfl
theorem args_int {B : Bx} {W : Wd} {ms : List Bool} {vs : List V} : ∀ {js : List Int}, ArgsOk B W ms vs (js.map D.int) → vs = js.map V.int := fun {js} h => by
  induction js generalizing ms vs with
  | nil => cases h; rfl
  | cons j js ih =>
    cases h with
    | dat r t => cases r; rw [ih t]; rfl
    | bor r t => rw [rp_int r, ih t]; rfl
theorem di_range1 {ms : List Bool} {Ra : DTA} {p : Pos} (hm : X.mg "range" = none) (ha : DM X wx ms [a] Ra) (hg : Gl X "range" := by rfl) (hs : starEach [a] X.env = [(false, eval a X.env)] := by rfl) : DI X wx tg (.Call (.Name "range" p) [a] [] pos) (dRng1 Ra) := by
  obtain ⟨t, pa, r⟩ := ha
  refine ⟨_, pi_range1 hg hm pa hs, fun W0 W m σ ρ M Q Qd Ed R mk h1 h2 h3 => r W0 W m σ ρ M _ _ _ R mk h1 (fun ds vs W' m' M' q le mk' hv => ?_) h3⟩
  split at q
  · rename_i j
    have e := args_int (js := [j]) hv
    subst e
    exact ⟨j, rfl, q.1, q.2.1, h2 _ _ W' m' M' q.2.2 le mk' (itr_ok 0 j.toNat)⟩
  · exact q.elim
def enumD (xs : List D) : List D := xs.zipIdx.map fun p => D.tup [.int (p.2 : Nat), p.1]
def dEnum (R : DTA) : DTA := fun ρ M Q E => R ρ M (fun ds M' => match ds with | [.lst xs] => Q (enumD xs) M' | [.tup xs] => Q (enumD xs) M' | _ => False) E
def signsD (x : Str) : List D := x.cps.toList.map fun c => D.str ⟨#[c]⟩
def dItA (T : DTE) : DTA := fun ρ M Q E => T ρ M (fun x M' => match x with | .lst xs => Q xs M' | .tup xs => Q xs M' | .str z => Q (signsD z) M' | .dic _ ks => Q (ks.map (·.1)) M' | _ => False) E
theorem its_ok {B : Bx} {W0 W1 : Wd} (z : Str) : ItOk B W0 W1 (Its z) (signsD z) := fun i W2 m M le2 ex mk => by
  refine ⟨fun d hd => ?_, fun hl => by show z.cps.size ≤ i; simpa [signsD] using hl⟩
  unfold signsD at hd
  rw [List.getElem?_map] at hd
  cases y : z.cps.toList[i]? with
  | none => rw [y] at hd; cases hd
  | some c =>
    rw [y] at hd
    cases hd
    have y' : z.cps[i]? = some c := by simpa using y
    refine ⟨(Array.getElem?_eq_some_iff.mp y').1, fun x H' w => ?_⟩
    obtain ⟨rfl, c', e, rfl⟩ := w
    rw [y'] at e
    cases e
    exact ⟨W2, Wd.le.refl W2, rfl, mk, .str _⟩
def ItK (d : Addr) (o : HO) (n : Nat) (f : Nat → Option V) : It := ⟨fun i H => H d = some o ∧ i < n, fun i H x H' => H' = H ∧ f i = some x, fun i H => H d = some o ∧ n ≤ i⟩
theorem dk_frz {pins : List (Addr × Obj)} {σ : L2.St} {H : Hp} {s : Shared} {d : Addr} {o : Obj} {kvs : List (Key × V)} (I : Inv X pins σ H s) (h : H d = some (.ext (DkAt (bx X) d o kvs))) :
    (d == sysModules) = false ∧ s.heap.get? d = some o ∧ o.ExactDict ∧ ∃ (es : Array DictEntry) (ep : Nat) (vs : List (Key × Value)), o.data = .dict es ep ∧ es.size = kvs.length ∧ KV kvs vs ∧ s.heap.DictAt (mixKind X.prog X.w) d vs ep := by
  obtain ⟨hd, z, hs, vs, kv, o', es, ep, ho, hx, hdt, r⟩ := dk_at I h
  rw [hd] at ho
  cases ho
  refine ⟨hs, hd, hx, es, ep, vs, hdt, ?_, kv, o, es, hd, hx, hdt, r⟩
  have l1 := r.2.1.length
  have l2 : kvs.length = vs.length := Paired.length kv
  rw [Array.length_toList] at l1
  omega
theorem turnK {P : Program} {w : World} {K : PySem.W.Frag} {mg : Str → Option Value} {d : Addr} {o : Obj} {es : Array DictEntry} {ep : Nat} {kvs : List (Key × V)} (it : Addr) (hod : o.data = .dict es ep) :
    Turn P w K tg (ItK d (.ext (DkAt ⟨P, w, K, mg⟩ d o kvs)) kvs.length fun i => (kvs[i]?).map fun p => kV p.1) [it] it (fun i h => h.IsKeyIter it d i kvs.length ep) where
  mem := by simp
  obj := fun i h st b hb => by
    have e : b = it := by simpa using hb
    subst e
    obtain ⟨oi, e, c, dd⟩ := st
    exact ⟨oi, e, fun v z => by rw [dd] at z; cases z⟩
  keep := fun i h h' st k => st.at fun oi e => k it (by simp) oi e
  item := by
    intro X hP hw hK hc i pins s σ H E I hf st hg
    subst hP hw hK
    obtain ⟨hd, hi⟩ := hg
    obtain ⟨f0, f1, f2, f3, f4, f5⟩ := hf it (by simp)
    obtain ⟨hs, hgd, hx, es', ep', vs, hdt, hsz, kv, hm⟩ := dk_frz (X := X) I hd
    obtain ⟨rfl, rfl⟩ := dict_ep hod hdt
    obtain ⟨⟨k, v⟩, hkv⟩ : ∃ p, kvs[i]? = some p := ⟨kvs[i], List.getElem?_eq_getElem hi⟩
    obtain ⟨u, hu, ru⟩ := kv_get kv hkv
    have hl : kvs.length = vs.length := Paired.length kv
    rw [hl] at st
    refine wpAny_pyNext_dict_item st hm hu fun key h' hkey st' sb => ?_
    have I1 : Inv X pins σ H { s with heap := h' } := I.turned (t' := s.toks) (fun b ob hb e => (sb.2 b hb).trans e) f0 f1 f3 f4 f5
    obtain ⟨oi, e, c, dd⟩ := id st'
    refine ⟨key, rfl, go_of (s := { s with heap := h' }) e c dd (by decide) ⟨kV k, H, I1, relV_key (show keyIs k key = true from hkey), ⟨rfl, by show Option.map _ _ = _; rw [hkv]; rfl⟩, ?_, fun b hb => (hf b hb).1⟩⟩
    show h'.IsKeyIter it d (i + 1) kvs.length _
    rw [hl]
    exact st'
  done := by
    intro X hP hw hK hc i pins s σ H E I hf st hg
    subst hP hw hK
    obtain ⟨hd, hi⟩ := hg
    obtain ⟨f0, f1, f2, f3, f4, f5⟩ := hf it (by simp)
    obtain ⟨hs, hgd, hx, es', ep', vs, hdt, hsz, kv, hm⟩ := dk_frz (X := X) I hd
    obtain ⟨rfl, rfl⟩ := dict_ep hod hdt
    exact next_key_end (I.ok.hd hc) st hgd hdt hsz hi fun h' eb => ⟨rfl, I.turned (t' := s.toks) (fun b ob hb e => eb b ob hb e) f0 f1 f3 f4 f5⟩
  self := fun A i s Q E st h => wpAny_pyIter_keyiter st h
theorem turnX {P : Program} {w : World} {K : PySem.W.Frag} {mg : Str → Option Value} {d : Addr} {o : Obj} {es : Array DictEntry} {ep : Nat} {xs : List (NestedKey × Addr × Value)} (it : Addr) (hod : o.data = .dict es ep) :
    Turn P w K tg (ItK d (.ext (RawD ⟨P, w, K, mg⟩ d o xs)) xs.length fun i => (xs[i]?).map fun x => .ref x.2.1) [it] it (fun i h => h.IsKeyIter it d i xs.length ep) where
  mem := by simp
  obj := fun i h st b hb => by
    have e : b = it := by simpa using hb
    subst e
    obtain ⟨oi, e, c, dd⟩ := st
    exact ⟨oi, e, fun v z => by rw [dd] at z; cases z⟩
  keep := fun i h h' st k => st.at fun oi e => k it (by simp) oi e
  item := by
    intro X hP hw hK hc i pins s σ H E I hf st hg
    subst hP hw hK
    obtain ⟨hd, hi⟩ := hg
    obtain ⟨f0, f1, f2, f3, f4, f5⟩ := hf it (by simp)
    obtain ⟨hgd, z, hs, hx, hnd, es', ep', hdt, he⟩ := (I.hok d _ hd).1
    obtain ⟨rfl, rfl⟩ := dict_ep hod hdt
    have hsz : es'.size = xs.length := size_of_entries he
    obtain ⟨x, hkv⟩ : ∃ p, xs[i]? = some p := ⟨xs[i], List.getElem?_eq_getElem hi⟩
    have hen := entry_at he i
    rw [hkv] at hen
    refine next_key_item st hgd hdt hsz hen fun h' st' sb => ?_
    have I1 : Inv X pins σ H { s with heap := h' } := I.turned (t' := s.toks) (fun b ob hb e => (sb.2 b hb).trans e) f0 f1 f3 f4 f5
    obtain ⟨oi, e, c, dd⟩ := id st'
    exact ⟨_, rfl, go_of (s := { s with heap := h' }) e c dd (by decide) ⟨.ref x.2.1, H, I1, rfl, ⟨rfl, by show Option.map _ _ = _; rw [hkv]; rfl⟩, st', fun b hb => (hf b hb).1⟩⟩
  done := by
    intro X hP hw hK hc i pins s σ H E I hf st hg
    subst hP hw hK
    obtain ⟨hd, hi⟩ := hg
    obtain ⟨f0, f1, f2, f3, f4, f5⟩ := hf it (by simp)
    obtain ⟨hgd, z, hs, hx, hnd, es', ep', hdt, he⟩ := (I.hok d _ hd).1
    obtain ⟨rfl, rfl⟩ := dict_ep hod hdt
    have hsz : es'.size = xs.length := size_of_entries he
    exact next_key_end (I.ok.hd hc) st hgd hdt hsz hi fun h' eb => ⟨rfl, I.turned (t' := s.toks) (fun b ob hb e => eb b ob hb e) f0 f1 f3 f4 f5⟩
  self := fun A i s Q E st h => wpAny_pyIter_keyiter st h
def iAny (B : Bx) (tl : TE) : TI := fun σ H R => tl σ H fun x H1 => (∃ a, x = .ref a ∧ (∃ xs, SqL B.K H1 a xs) ∧ R (Itl B.K a) H1) ∨ (∃ a, x = .ref a ∧ (∃ xs, SqT B.K H1 a xs) ∧ R (Itt B.K a) H1) ∨ (∃ z, x = .str z ∧ R (Its z) H1) ∨ (∃ a o kv, x = .ref a ∧ H1 a = some (.ext (DkAt B a o kv)) ∧ R (ItK a (.ext (DkAt B a o kv)) kv.length fun i => (kv[i]?).map fun p => kV p.1) H1) ∨ ∃ a o xs, x = .ref a ∧ H1 a = some (.ext (RawD B a o xs)) ∧ R (ItK a (.ext (RawD B a o xs)) xs.length fun i => (xs[i]?).map fun x => .ref x.2.1) H1
theorem pi_any {l : Expr} {tl : TE} (hl : PE X l tl) : PI X tg l (iAny (bx X) tl) := by
  refine ⟨fun pins s σ H R I h => ?_⟩
  refine thn (hl.run pins s σ H _ I h) fun v s1 ⟨x, H1, I1, r1, q1⟩ => ?_
  rcases q1 with ⟨a, e, ⟨xs, hq⟩, q⟩ | ⟨a, e, ⟨xs, hq⟩, q⟩ | ⟨z, e, q⟩ | ⟨d, o, kv, e, hd, q⟩ | ⟨d, o, xs, e, hd, q⟩
  · subst e
    cases r1
    obtain ⟨its, rv, p, hz⟩ := I1.list hq
    refine wpAny_pyIter_list p.isList ?_
    refine ⟨s1.heap.objs.size, [s1.heap.objs.size], _, _, H1, rfl, I1.kept (t' := s1.toks) fun b o e => Heap.get?_push_of_some _ e, turn_list a _, ⟨_, Heap.get?_push_size _ rfl, rfl, rfl⟩, fun b hb => ?_, q⟩
    have e : b = s1.heap.objs.size := by simpa using hb
    subst e
    exact I1.fpOk (Nat.le_refl _) (I1.hok.fresh (Nat.le_refl _))
  · subst e
    cases r1
    obtain ⟨its, rv, p, hz⟩ := I1.tuple hq
    refine wpAny_pyIter_tuple (show s1.heap.IsTuple a its.toArray from p) ?_
    refine ⟨s1.heap.objs.size, [s1.heap.objs.size], _, _, H1, rfl, I1.kept (t' := s1.toks) fun b o e => Heap.get?_push_of_some _ e, turn_tuple a _, ⟨_, Heap.get?_push_size _ rfl, rfl, rfl⟩, fun b hb => ?_, q⟩
    have e : b = s1.heap.objs.size := by simpa using hb
    subst e
    exact I1.fpOk (Nat.le_refl _) (I1.hok.fresh (Nat.le_refl _))
  · subst e
    obtain ⟨t, rfl⟩ := r1
    cases ha : z.cps.all (· < 128)
    · exact wpAny_pyIter_wide ha (pi_one (tk := s1.toks) I1 _ (turn_str _ z t "str_iterator" (.inr rfl)) ⟨_, Heap.get?_push_size _ rfl, rfl, rfl⟩ q)
    · exact wpAny_pyIter_ascii ha (pi_one (tk := s1.toks) I1 _ (turn_str _ z t "str_ascii_iterator" (.inl rfl)) ⟨_, Heap.get?_push_size _ rfl, rfl, rfl⟩ q)
  · subst e
    cases r1
    obtain ⟨hs, hgd, hx, es, ep, vs, hdt, hsz, kv', hm⟩ := dk_frz I1 hd
    refine iter_keys hs hgd hx hdt (pi_one (tk := s1.toks) I1 _ (turnK _ hdt) ⟨_, Heap.get?_push_size _ rfl, rfl, ?_⟩ q)
    rw [hsz] <;> rfl
  · subst e
    cases r1
    obtain ⟨hgd, z, hs, hx, hnd, es, ep, hdt, he⟩ := (I1.hok d _ hd).1
    have hsz : es.size = xs.length := size_of_entries he
    refine iter_keys hs hgd hx hdt (pi_one (tk := s1.toks) I1 _ (turnX _ hdt) ⟨_, Heap.get?_push_size _ rfl, rfl, ?_⟩ q)
    rw [hsz] <;> rfl
theorem di_any (he : DE X wx iter T) : DI X wx tg iter (dItA T) := by
  obtain ⟨t, p, r⟩ := he
  refine ⟨_, pi_any p, fun W0 W m σ ρ M Q Qd Ed R mk h1 h2 h3 => r W0 W m σ ρ M _ _ _ R mk h1 (fun d v W' m' M' q le mk' hv => ?_) h3⟩
  have ok := W'.ok.trans (cat_ex W'.H m')
  cases d with
  | lst xs =>
    cases hv with
    | lst h4 h5 => exact .inl ⟨_, rfl, ⟨_, Evl.ex_l ok h4⟩, h2 xs _ W' m' M' q le mk' (itl_ok (B := bx X) (fun W'' _ ex => Evl.ex_l W''.ok (Evl.ex_l ex h4)) h5)⟩
  | tup xs =>
    cases hv with
    | tup h4 h5 => exact .inr (.inl ⟨_, rfl, ⟨_, Evl.ex_t ok h4⟩, h2 xs _ W' m' M' q le mk' (itt_ok (B := bx X) (fun W'' _ ex => Evl.ex_t W''.ok (Evl.ex_t ex h4)) h5)⟩)
  | str z => cases hv; exact .inr (.inr (.inl ⟨z, rfl, h2 _ _ W' m' M' q le mk' (its_ok z)⟩))
  | dic t ks =>
    cases hv with
    | dic h4 h5 =>
      rename_i a o kv
      refine .inr (.inr (.inr (.inl ⟨a, o, kv, rfl, ok _ _ h4, h2 _ _ W' m' M' q le mk' fun i W2 m2 M2 le2 ex mk2 => ?_⟩)))
      have hc := (W2.ok.trans (cat_ex W2.H m2)) _ _ (ex _ _ h4)
      refine ⟨fun d hd => ?_, fun hl => ⟨hc, by rw [List.length_map] at hl; rw [h5.len]; exact hl⟩⟩
      rw [List.getElem?_map] at hd
      obtain ⟨p, hp, e⟩ := Option.map_eq_some_iff.mp hd
      obtain ⟨k, v, e1, e2⟩ := h5.at hp
      refine ⟨⟨hc, (List.getElem?_eq_some_iff.mp e1).1⟩, fun x H' y => ?_⟩
      obtain ⟨rfl, y⟩ := y
      have y : Option.map (fun p => kV p.1) kv[i]? = some x := y
      rw [e1] at y
      cases y
      refine ⟨W2, Wd.le.refl W2, rfl, mk2, ?_⟩
      rw [← e, e2]
      cases k with
      | inl i => exact .int i
      | inr x => exact .str x
    | dit h4 h5 =>
      rename_i a o xs
      refine .inr (.inr (.inr (.inr ⟨a, o, xs, rfl, ok _ _ h4, h2 _ _ W' m' M' q le mk' fun i W2 m2 M2 le2 ex mk2 => ?_⟩)))
      have hc := (W2.ok.trans (cat_ex W2.H m2)) _ _ (ex _ _ h4)
      refine ⟨fun d hd => ?_, fun hl => ⟨hc, by rw [List.length_map] at hl; rw [h5.len]; exact hl⟩⟩
      rw [List.getElem?_map] at hd
      obtain ⟨p, hp, e⟩ := Option.map_eq_some_iff.mp hd
      obtain ⟨x0, e1, e2⟩ := h5.at hp
      refine ⟨⟨hc, (List.getElem?_eq_some_iff.mp e1).1⟩, fun x H' y => ?_⟩
      obtain ⟨rfl, y⟩ := y
      have y : Option.map (fun x => V.ref x.2.1) xs[i]? = some x := y
      rw [e1] at y
      cases y
      refine ⟨W2, Wd.le.refl W2, rfl, mk2, ?_⟩
      rw [← e]
      exact e2.mono ex
  | _ => exact q.elim
end
end Z
namespace Z
open PySem PySem.Spec PyProof.Rows L2
open Evl (Ex)
def liftSp (B : Bx) (ms : List Bool) (sp : SpM) : Sp := fun vs H Q E => ∃ (W : Wd) (m : Hp) (M : Mu) (ds : List D) (Qd : D → Mu → Prop) (Ed : Str → Mu → Prop), cat W.H m = H ∧ MOk B W M m ∧ ArgsOk B W ms vs ds ∧ sp ds M Qd Ed ∧
  (∀ d v W' m' M', Qd d M' → W.le W' → MOk B W' M' m' → Rp B W'.F v d → Q v (cat W'.H m')) ∧ (∀ C W' m' M', Ed C M' → W.le W' → MOk B W' M' m' → E (.ref (B.cl C)) none (cat W'.H m'))
abbrev FnB (B : Bx) (base : Heap) (k : Nat) (f : Addr) (fd : FuncData) (ps : List Str) (ms : List Bool) (sp : SpM) : Prop := FnOk B.P B.w B.K B.mg base (L2.CX B.P B.w) k f fd ps (liftSp B ms sp)
theorem liftSp.imp {B : Bx} {ms : List Bool} {sp sp' : SpM} (hs : ∀ ds M Q E, sp' ds M Q E → sp ds M Q E) {vs : List V} {H : Hp} {Q : VK} {E : XK} : liftSp B ms sp' vs H Q E → liftSp B ms sp vs H Q E :=
  fun ⟨W, m, M, ds, Qd, Ed, a, b, c, d, e⟩ => ⟨W, m, M, ds, Qd, Ed, a, b, c, hs _ _ _ _ d, e⟩
structure Fn (B : Bx) (base : Heap) (k : Nat) (x : Str) (ms : List Bool) (sp : SpM) : Prop where
  ex : ∃ f fd ps, FnB B base k f fd ps ms sp ∧ B.mg x = some (.ref f) ∧ PySem.W.keepIn B.K (.ref f) = true ∧ Binds B.K fd ps []
theorem Fn.imp {B : Bx} {base : Heap} {k : Nat} {x : Str} {ms : List Bool} {sp sp' : SpM} (h : Fn B base k x ms sp) (hs : ∀ ds M Q E, sp' ds M Q E → sp ds M Q E) : Fn B base k x ms sp' := by
  obtain ⟨f, fd, ps, F, h1, h2, h3⟩ := h.ex
  exact ⟨f, fd, ps, F.imp fun vs H Q E => liftSp.imp hs, h1, h2, h3⟩
theorem Fn.up {B : Bx} {base : Heap} {k j : Nat} {x : Str} {ms : List Bool} {sp : SpM} (h : Fn B base k x ms sp) (hk : k ≤ j) : Fn B base j x ms sp := by
  obtain ⟨f, fd, ps, F, h1, h2, h3⟩ := h.ex
  exact ⟨f, fd, ps, F.mono hk, h1, h2, h3⟩
section
variable {X : Cx} {wx : WX} {e : Expr} {es : List Expr} {pos p : Pos}
def dCall (sp : SpM) (R : DTA) : DTE := fun ρ M Q E => R ρ M (fun ds M' => sp ds M' Q E) E
theorem rf_call {B : Bx} {ms : List Bool} {t : TA} {R : DTA} {sp : SpM} {e : Str → Addr} (h : RfM B wx ms t R) : RfE B wx (tCallS (liftSp B ms sp) (WE wx) t) (dCall sp R) := fun W0 W m σ ρ M Q Qd Ed Re k h1 h2 h3 => by
  refine h W0 W m σ ρ M _ _ Ed Re k h1 (fun ds vs W' m' M' q le k' hv => ?_) h3
  exact ⟨W', m', M', ds, Qd, Ed, rfl, k', hv, q, fun d v W'' m'' M'' q2 le2 k2 hv2 => h2 d v W'' m'' M'' q2 (le.trans le2) k2 hv2, fun C W'' m'' M'' q2 le2 k2 => h3 C W'' m'' M'' q2 (le.trans le2) k2⟩
theorem de_call {x : Str} {k j : Nat} {ms : List Bool} {sp : SpM} {R : DTA} (F : Fn (bx X) X.base k x ms sp) (hr : Room j X.A) (tk : Takes X wx) (hk : k ≤ j) (ha : DM X wx ms (e :: es) R) (hg : Gl X x := by rfl) (hdb : (x == ("__debug__" : Str)) = false := by decide)
    (he : starEach (e :: es) X.env = (false, eval e X.env) :: starEach es X.env := by rfl) (hpl : (backTo pos (starEach es X.env)).any (·.1) = false := by rfl) : DE X wx (.Call (.Name x p) (e :: es) [] pos) (dCall sp R) := by
  obtain ⟨f, fd, ps, G, h1, h2, h3⟩ := F.ex
  obtain ⟨t, pa, ra⟩ := ha
  exact ⟨_, pe_callS G (hr.mono hk) hg h1 h2 h3 (fun σ => passAt tk σ) pa hdb he hpl, rf_call (e := fun _ => 0) ra⟩
end
def entOf (m : Bool) (d : D) : Ent := if m = true then .bor d else .dat d
def startE : List Bool → Nat → List D → List Ent
  | _, 0, _ => []
  | ms, n + 1, [] => .un :: startE ms n []
  | [], n + 1, d :: ds => .dat d :: startE [] n ds
  | m :: ms, n + 1, d :: ds => entOf m d :: startE ms n ds
theorem ga_un : ∀ (ms : List Bool) (n i : Nat), ga (startE ms n []) i = .un
  | _, 0, _ => rfl
  | _, _ + 1, 0 => rfl
  | ms, n + 1, i + 1 => ga_un ms n i
theorem startE_len : ∀ (ms : List Bool) (n : Nat) (ds : List D), (startE ms n ds).length = n
  | _, 0, _ => rfl
  | ms, n + 1, [] => congrArg (· + 1) (startE_len ms n [])
  | [], n + 1, _ :: ds => congrArg (· + 1) (startE_len [] n ds)
  | _ :: ms, n + 1, _ :: ds => congrArg (· + 1) (startE_len ms n ds)
section
variable {B : Bx} {W : Wd}
theorem EntOk.shift {W0 : Wd} {σ : L2.St} {s : Option V} {i : Nat} {a : Addr} {e : Ent} (h : EntOk B W0 W σ i a e) : EntOk B W0 W (s :: σ) (i + 1) a e := by
  cases e with
  | un => trivial
  | dat d => exact h
  | own ds => exact h
  | bor ds => exact h
  | dk _ ds => exact h
theorem entOf_own (m : Bool) (d : D) : (entOf m d).ownd = false := by
  cases m <;> rfl
theorem entOf_ok {m : Bool} {v : V} {d : D} {σ : L2.St} {a : Addr} (h : if m = true then RpR B W.F W.H v d else Rp B W.F v d) : EntOk B W W (some v :: σ) 0 a (entOf m d) := by
  cases m with
  | false => exact ⟨v, rfl, h⟩
  | true => exact ⟨v, rfl, .inl h⟩
theorem rel_slots {m : Nat} {a : Addr} {ms : List Bool} {vs : List V} {ds : List D} (h : ArgsOk B W ms vs ds) : ∀ i, EntOk B W W (vs.map some ++ List.replicate m none) i a (ga (startE ms (ds.length + m) ds) i) := by
  induction h with
  | nil => intro i; rw [ga_un]; trivial
  | @dat ms v vs d ds r _ ih =>
    intro i
    have e : (d :: ds).length + m = (ds.length + m) + 1 := by simp only [List.length_cons]; omega
    rw [e]
    cases i with
    | zero => exact entOf_ok (m := false) r
    | succ i => exact (ih i).shift
  | @bor ms v vs d ds r _ ih =>
    intro i
    have e : (d :: ds).length + m = (ds.length + m) + 1 := by simp only [List.length_cons]; omega
    rw [e]
    cases i with
    | zero => exact entOf_ok (m := true) r
    | succ i => exact (ih i).shift
theorem start_own : ∀ (ms : List Bool) (n : Nat) (ds : List D) (i : Nat), (ga (startE ms n ds) i).ownd = false
  | _, 0, _, _ => rfl
  | ms, n + 1, [], i => by rw [ga_un]; rfl
  | [], n + 1, d :: ds, 0 => rfl
  | [], n + 1, d :: ds, i + 1 => start_own [] n ds i
  | m :: ms, n + 1, d :: ds, 0 => entOf_own m d
  | m :: ms, n + 1, d :: ds, i + 1 => start_own ms n ds i
theorem rel_start {N : List Str} {ms : List Bool} {vs : List V} {ds : List D} (h : ArgsOk B W ms vs ds) (hn : vs.length ≤ N.length) : Rel B W W (L2.start N vs) (startE ms N.length ds) := by
  have hl := h.length
  refine ⟨Wd.le.refl W, ?_, fun _ => 0, fun i j _ hi => ?_, fun i => ?_⟩
  · rw [startE_len]
    unfold L2.start
    rw [List.length_append, List.length_map, List.length_replicate]
    omega
  · rw [start_own] at hi; cases hi
  · have e : N.length = ds.length + (N.length - vs.length) := by omega
    have q := rel_slots (m := N.length - vs.length) (a := 0) h i
    rw [← e] at q
    exact q
theorem ms_len {ms : List Bool} {vs : List V} {ds : List D} (h : ArgsOk B W ms vs ds) : vs.length = ms.length := by
  induction h with
  | nil => rfl
  | dat _ _ ih => exact congrArg (· + 1) ih
  | bor _ _ ih => exact congrArg (· + 1) ih
end
section
variable {B : Bx} {base : Heap}
def endsOf (Q : D → Mu → Prop) (E : Str → Mu → Prop) : DEnds := ⟨fun _ M => Q .non M, Q, fun _ _ => False, fun _ _ => False, fun C _ => E C⟩
abbrev cxF (B : Bx) (base : Heap) (N : List Str) (qual : Str) (sc : Scope) (f : Addr) (cdv : Value) (A : Around) (outer : List Env) (s : Shared) (H : Hp) (E : XK) : Cx := cxOf (L2.CX B.P B.w) B.P B.w B.K B.mg base N qual sc f cdv A outer s H E
abbrev wxF (E : XK) : WX := fun cls d _ H => E cls d H
theorem fnok_of {x qual : Str} {pm : Arguments} {bd : List Stmt} {sc : Scope} {dvs : List V} {kws : List (Str × V)} {f : Addr} {fd : FuncData} {N ps : List Str} {ms : List Bool} {sp : SpM} {T : DTS} {k : Nat} (F : FunD B.K x qual pm bd sc dvs kws f fd) (S : FnScope N ps sc)
    (body : ∀ (cdv : Value) (A : Around) (outer : List Env) (s : Shared) (H : Hp) (E : XK), Room k (cxF B base N qual sc f cdv A outer s H E).A → Takes (cxF B base N qual sc f cdv A outer s H E) (wxF E) →
      PassesOwn (model B.P B.w) (cxF B base N qual sc f cdv A outer s H E).A (cxF B base N qual sc f cdv A outer s H E).env (cxF B base N qual sc f cdv A outer s H E).xe →
      DSs (cxF B base N qual sc f cdv A outer s H E) (wxF E) bd T)
    (spec : ∀ ds M Q E, sp ds M Q E → T (endsOf Q E) (startE ms N.length ds) M) (hl : ms.length = ps.length := by rfl) : FnB B base (k + 1) f fd ps ms sp := by
  refine F.ok S (fun vs H Q E h => ?_) (fun cdv A outer s H vs Q E hr h => ?_)
  · obtain ⟨W, m, M, ds, Qd, Ed, _, _, hA, _⟩ := h
    rw [ms_len hA, hl]
  · obtain ⟨W, m, M, ds, Qd, Ed, rfl, mk, hA, hsp, h1, h2⟩ := h
    obtain ⟨t, p, r⟩ := body cdv A outer s (cat W.H m) E hr (takes_of rfl rfl rfl rfl) (passes_of rfl)
    refine ⟨t, p, ?_⟩
    have hp : ps.length ≤ N.length := by
      have := congrArg List.length S.pre
      rw [List.length_take] at this
      omega
    refine r W W m _ _ M _ _ (rel_start hA (by rw [ms_len hA, hl]; exact hp)) mk (spec ds M Qd Ed hsp) ⟨fun W' m' σ ρ M' R mk' q => ?_, fun d v W' m' M' le mk' rv q => ?_, fun _ _ _ _ _ _ _ q => q.elim, fun _ _ _ _ _ _ _ q => q.elim, fun C W' m' σ ρ M' R mk' q => ?_⟩
    · exact h1 .non .non W' m' M' q R.le mk' .non
    · exact h1 d v W' m' M' q le mk' rv
    · exact h2 C W' m' M' q R.le mk'
theorem Fn.mk' {x qual : Str} {pm : Arguments} {bd : List Stmt} {sc : Scope} {f : Addr} {fd : FuncData} {ps : List Str} {ms : List Bool} {sp : SpM} {k : Nat} (F : FunD B.K x qual pm bd sc [] [] f fd) (hm : B.mg x = some (.ref f)) (hb : Binds B.K fd ps []) (G : FnB B base k f fd ps ms sp) : Fn B base k x ms sp := ⟨f, fd, ps, G, hm, F.kp, hb⟩
end
section
variable {l : PySem.W.OpenLaw} {k : Nat} {q : Program} {loose : List Str} {XP : (Str → Option Value) → Heap → Prop} {YP : World → Heap → Prop} {d : DefRec} {x : Str}
theorem walkZ (hn : l.most = some 63) (hdf : d.params.defaults = []) (hr : Room k callerA)
    (F : ∀ (w : World) (mg : Str → Option Value) (fa : Addr) (h : Heap), YP w h → h.Ns mainGlobals mg → mg d.name = some (.ref fa) → ∃ (K : PySem.W.Frag) (fd : FuncData) (sp : Sp), K.In h ∧ (∀ (s : Shared) (u : Value), BindsTo s fd ⟨[u], []⟩ [(x, u)]) ∧
      (∀ (H : Hp) (a : Addr) (ns : List Int), ns.length ≤ 63 → SqL K H a (ns.map V.int) → sp [.ref a] H (fun v _ => v = .bl true) fun _ _ _ => False) ∧
      ∀ base : Heap, K.In base → base.Ns mainGlobals mg → FnOk l.prog w K mg base (L2.CX l.prog w) k fa fd [x] sp) :
    PySem.W.WalkO q loose XP YP l.row.toRowW d [] (fun f vs => PySem.call f vs) := by
  refine Att.attach_call hn hdf fun w s₀ s₁ mg mb fa o pm cd doc a vs ns G Y ho hd hcd hmg hobj hints hlen hg => ?_
  obtain ⟨K, fd, sp, KX, hb, hsp, hF⟩ := F w mg fa _ Y G.T.g hmg
  refine law_call KX G.T.g G.T.b G.T.builtins G.T.nolimit hg hobj hints (Nat.le_trans hlen (by decide)) hr hF hb (fun H _ hS => hsp H a ns hlen hS) fun H e s' z => ?_
  obtain ⟨_, _, _, _, _, _, _, _, _, _, _, _, z⟩ := z
  exact z
end
def spLaw : SpM := pur fun ds Q _ => ∃ ns : List Int, ds = [.lst (ns.map .int)] ∧ ns.length ≤ 63 ∧ Q (.bl true)
def M0 : Mu := fun _ => none
theorem law_ok {B : Bx} (H : Hp) (a : Addr) (ns : List Int) (hl : ns.length ≤ 63) (hS : SqL B.K H a (ns.map V.int)) : liftSp B [false] spLaw [.ref a] H (fun v _ => v = .bl true) fun _ _ _ => False := by
  refine ⟨⟨H, H, Ex.refl H⟩, fun _ => none, M0, [.lst (ns.map .int)], fun d _ => d = .bl true, fun _ _ => False, ?_, ⟨fun _ _ => rfl, fun _ => trivial⟩, .dat (.lst hS (RpAll.of_ints ns)) .nil, ⟨ns, rfl, hl, rfl⟩, fun d v W' m' M' q le k hv => ?_, fun _ _ _ _ z => z.elim⟩
  · funext b
    show cat H (fun _ => none) b = H b
    unfold cat; cases H b <;> rfl
  · subst q
    cases hv
    rfl
end Z
namespace Z
open PySem PySem.Spec PyProof.Rows L2
open Evl (Ex)
section
variable {B : Bx} {W0 W : Wd} {σ : L2.St} {ρ : List Ent} {M : Mu} {m : Hp}
theorem MOk.relay (h : MOk B W M m) {a : Addr} {o o' : HO} (ha : W.H a = some o) (hF : W.F a = none) : MOk B (W.lay a o' hF) M m := ⟨fun b hb => by
    by_cases z : b = a
    · subst z; exact h.dj b (by rw [ha]; exact fun y => by cases y)
    · refine h.dj b ?_
      have e : (W.lay a o' hF).H b = W.H b := upd_ne z
      rw [← e]; exact hb, fun b => h.ok b⟩
theorem Rel.own (R : Rel B W0 W σ ρ) {i : Nat} {ds : List D} (z : ga ρ i = .own ds) : ∃ a vs, σ[i]? = some (some (.ref a)) ∧ W.H a = some (.lst vs) ∧ W.F a = none ∧ RpAll B W.F vs ds ∧
    ∀ (hF : W.F a = none) vs' ds', RpAll B W.F vs' ds' → Rel B W0 (W.lay a (.lst vs') hF) σ (ρ.set i (.own ds')) := by
  obtain ⟨le, len, ad, h3, h4⟩ := R
  have q := h4 i
  rw [z] at q
  obtain ⟨vs, q1, q2, q3, q4, q5⟩ := q
  have hl : i < ρ.length := ga_lt (by rw [z]; exact fun y => by cases y)
  refine ⟨ad i, vs, q1, q2, q3, q5, fun hF vs' ds' hv => ⟨⟨le.f, fun a o h => ?_, le.n⟩, by rw [List.length_set]; exact len, ad, fun j k hjk hj hk => ?_, fun j => ?_⟩⟩
  · show upd W.H (ad i) _ a = some o
    rw [upd_ne (fun y => by subst y; rw [q4] at h; cases h)]; exact le.h a o h
  · rw [ga_set, if_pos hl] at hj hk
    have oj : (ga ρ j).ownd = true := by
      by_cases y : i = j
      · subst y; rw [z]; rfl
      · rw [if_neg y] at hj; exact hj
    have ok : (ga ρ k).ownd = true := by
      by_cases y : i = k
      · subst y; rw [z]; rfl
      · rw [if_neg y] at hk; exact hk
    exact h3 j k hjk oj ok
  · rw [ga_set]
    by_cases y : i = j
    · subst y
      rw [if_pos rfl, if_pos hl]
      exact ⟨vs', q1, upd_same, q3, q4, hv⟩
    · rw [if_neg y]
      have q := h4 j
      have ne : (ga ρ j).ownd = true → ad j ≠ ad i := fun oj => h3 j i (Ne.symm y) oj (by rw [z]; rfl)
      cases u : ga ρ j with
      | un => trivial
      | dat d => rw [u] at q; exact q
      | bor d => rw [u] at q; exact q
      | own es => rw [u] at q ne; obtain ⟨us, p1, p2, p3, p4, p5⟩ := q; exact ⟨us, p1, (upd_ne (ne rfl)).trans p2, p3, p4, p5⟩
      | dk t ks =>
        rw [u] at q ne
        obtain ⟨p1, p2, p3, p4⟩ := q
        refine ⟨p1, ?_, p3, p4⟩
        have e : (W.lay (ad i) (.lst vs') hF).H (ad j) = W.H (ad j) := upd_ne (ne rfl)
        rw [e]; exact p2
end
abbrev LM := Mu → List D → List D → (D → List D → Prop) → Prop
def RfL (B : Bx) (ms : List Bool) (r : V → List V → Hp → VK → Prop) (o : LM) : Prop := ∀ (W : Wd) (m : Hp) (M : Mu) (a : Addr) (vs : List V) (ds : List D) (us : List V) (as : List D) (Q : VK) (Qd : D → List D → Prop), MOk B W M m → cat W.H m a = some (.lst vs) → RpAll B W.F vs ds → ArgsOk B W ms us as → o M ds as Qd →
  (∀ d v ds' vs', Qd d ds' → Rp B W.F v d → RpAll B W.F vs' ds' → Q v (upd (cat W.H m) a (.lst vs'))) → r (.ref a) us (cat W.H m) Q
section
variable {X : Cx} {wx : WX} {e a b c : Expr} {es : List Expr} {T Ta Tb : DTE} {R : DTA} {pos : Pos}
def isLst : Option Ob → Prop
  | some (.lst _) => True
  | _ => False
def lmPre (ρ : List Ent) (M : Mu) (i : Nat) : Prop := match ga ρ i with
  | .own _ => True
  | .dat (.ref a) => isLst (M a)
  | _ => False
def lmAt (o : LM) (ρ : List Ent) (M : Mu) (i : Nat) (as : List D) (K : D → List Ent → Mu → Prop) : Prop := match ga ρ i with
  | .own ds => o M ds as fun d ds' => K d (ρ.set i (.own ds')) M
  | .dat (.ref a) => (match M a with
    | some (.lst ds) => o M ds as fun d ds' => K d ρ (updM M a (.lst ds'))
    | _ => False)
  | _ => False
def dLmut (o : LM) (i : Nat) (R : DTA) (k : D → DEnds → List Ent → Mu → Prop) : DTS := fun DD ρ M => lmPre ρ M i ∧ R ρ M (fun as M' => lmAt o ρ M' i as fun d => k d DD) fun C => DD.ex C ρ
def kNx : D → DEnds → List Ent → Mu → Prop := fun _ DD ρ M => DD.nx ρ M
def kSet (j : Nat) : D → DEnds → List Ent → Mu → Prop := fun d DD ρ M => DD.nx (ρ.set j (.dat d)) M
theorem lmPre_of {B : Bx} {W0 W : Wd} {m : Hp} {σ : L2.St} {ρ : List Ent} {M : Mu} {i : Nat} (R : Rel B W0 W σ ρ) (mk : MOk B W M m) (h : lmPre ρ M i) : ∃ a vs, σ[i]? = some (some (.ref a)) ∧ cat W.H m a = some (.lst vs) := by
  unfold lmPre at h
  split at h
  · rename_i ds z
    obtain ⟨a, vs, s1, s2, _⟩ := R.own z
    exact ⟨a, vs, s1, cat_some s2⟩
  · rename_i a z
    obtain ⟨v, s1, s2⟩ := R.dat z
    cases s2
    have ob := mk.ok a
    cases y : M a with
    | none => rw [y] at h; exact h.elim
    | some u =>
      rw [y] at h ob
      cases u with
      | lst ds => obtain ⟨vs, o1, o2⟩ := ob; exact ⟨a, vs, s1, (cat_none (mk.hn y)).trans o1⟩
      | _ => exact h.elim
  · exact h.elim
theorem rf_lmut {B : Bx} {ms : List Bool} {r : V → List V → Hp → VK → Prop} {o : LM} (h : RfL B ms r o) {W0 W : Wd} {m : Hp} {σ : L2.St} {ρ : List Ent} {M : Mu} {i : Nat} {us : List V} {as : List D} {Q : VK} {K : D → List Ent → Mu → Prop} (R : Rel B W0 W σ ρ) (mk : MOk B W M m) (ha : ArgsOk B W ms us as)
    (q : lmAt o ρ M i as K)
    (k : ∀ d v W' m' ρ' M', K d ρ' M' → Rel B W0 W' σ ρ' → MOk B W' M' m' → Rp B W'.F v d → Q v (cat W'.H m')) : ∃ a vs, σ[i]? = some (some (.ref a)) ∧ cat W.H m a = some (.lst vs) ∧ r (.ref a) us (cat W.H m) Q := by
  unfold lmAt at q
  split at q
  · rename_i ds z
    obtain ⟨a, vs, s1, s2, s3, s4, s5⟩ := R.own z
    refine ⟨a, vs, s1, cat_some s2, h W m M a vs ds us as Q _ mk (cat_some s2) s4 ha q fun d v ds' vs' q' rv rvs => ?_⟩
    exact cat_q (P := Q v) (k d v (W.lay a (.lst vs') s3) m _ M q' (s5 s3 vs' ds' rvs) (mk.relay s2 s3) rv)
  · rename_i a z
    obtain ⟨v, s1, s2⟩ := R.dat z
    cases s2
    split at q
    · rename_i ds y
      have hn := mk.hn y
      have ob := mk.ok a
      rw [y] at ob
      obtain ⟨vs, o1, o2⟩ := ob
      have hc : cat W.H m a = some (.lst vs) := (cat_none hn).trans o1
      refine ⟨a, vs, s1, hc, h W m M a vs ds us as Q _ mk hc o2 ha q fun d v ds' vs' q' rv rvs => ?_⟩
      exact cat_qm (P := Q v) hn (k d v W (upd m a (.lst vs')) ρ _ q' R (mk.put hn ⟨vs', rfl, rvs⟩) rv)
    · exact q.elim
  · exact q.elim
theorem ty_list {K : PySem.W.Frag} {a : Addr} {vs : List V} {H : Hp} (h : H a = some (.lst vs)) : tyV K "list" (.ref a) H := .inl ⟨rfl, vs, .inl (.inl h)⟩
variable {i j : Nat} {ms : List Bool} {r : V → List V → Hp → VK → Prop} {o : LM} {ce : Expr} {k : D → DEnds → List Ent → Mu → Prop}
theorem rf_lmutE {B : Bx} {t : TA} (hr : RfL B ms r o) (ra : RfM B wx ms t R) {W0 W : Wd} {m : Hp} {σ : L2.St} {ρ : List Ent} {M : Mu} {Q : VK} {DD : DEnds} (Re : Rel B W0 W σ ρ) (mk : MOk B W M m) (h : dLmut o i R k DD ρ M)
    (h2 : ∀ d v W' m' ρ' M', k d DD ρ' M' → Rel B W0 W' σ ρ' → MOk B W' M' m' → Rp B W'.F v d → Q v (cat W'.H m')) (h3 : ExK B wx W σ fun C => DD.ex C ρ) : tBM B.K "list" r (tVar i) t σ (cat W.H m) Q := by
  obtain ⟨hp, h⟩ := h
  obtain ⟨a, vs, s1, s2⟩ := lmPre_of Re mk hp
  refine ⟨_, s1, ty_list s2, ra W0 W m σ ρ M _ _ _ Re mk h (fun ds us W' m' M' q le mk' hv => ?_) h3⟩
  obtain ⟨a', vs', s1', s2', s3⟩ := rf_lmut (B := B) (K := fun d => k d DD) (Q := Q) hr (Re.mono le) mk' hv q h2
  rw [s1] at s1'
  cases s1'
  exact s3
theorem ds_lmut (pb : ∀ {t}, PA X (e :: es) t → PE X ce (tBM X.K "list" r (tVar i) t)) (hr : RfL (bx X) ms r o) (ha : DM X wx ms (e :: es) R) (hs : swapsWith ce none pos.line X.env = pure false := by rfl) : DS X wx (.Expr ce pos) (dLmut o i R kNx) := by
  obtain ⟨t, p, ra⟩ := ha
  exact ⟨_, ps_expr (pb p) hs, fun W0 W m σ ρ M D DD Re mk h kk => rf_lmutE hr ra Re mk h (fun d v W' m' ρ' M' q R' mk' rv => kk.nx W' m' σ ρ' M' R' mk' q) fun C W' m' M' q le mk' => kk.ex C W' m' σ ρ M' (Re.mono le) mk' q⟩
end
theorem iaddW (l b : Addr) (items items2 : Array Value) (n n2 : Nat) (dd2 : Option Addr) (sl2 : Array (Option Value)) (h0 : ¬(!items.isEmpty && Builtin.List.listTooLong (items.size + items2.size)) = true) (h1 : items.size ≤ sizeLine) (h2 : items.size + items2.size ≤ sizeLine + 1) :
    Meets (Builtin.«list.__iadd__» ⟨[.ref l, .ref b], []⟩) (fun _ R s => s.heap.get? l = some { cls := .type "list", data := .seq items n } ∧ s.heap.get? b = some { cls := .type "list", dict := dd2, data := .seq items2 n2, slots := sl2 } ∧ R (.ok (.ret (.ref l))) { s with heap := s.heap.update l (Obj.mapSeq fun x => x ++ items2), toks := s.toks }) :=
  .of_wp fun prog w A R s h => by
    obtain ⟨hp, g, d, tk, os⟩ := s
    obtain ⟨hl, hb, h⟩ := h
    have f1 := AutoSeq1.idx_int
    have hz' : (items ++ items2).size ≤ sizeLine + 1 := by rw [Array.size_append]; exact h2
    wp_walk using (wpAny_updateSeq hl rfl (hz := h1) (_hz' := hz')), wpAny_loadPart' hl, wpAny_loadPart' hb
    exact ⟨_, rfl, h⟩
theorem ip_fill : fillsInplaceSlot (.type "list") "add" (Operator.Add == .Add) = pure false := by kernel_rfl
theorem ip_seq : seqSlot? (.type "list") (dunderI "add") = pure (some (.builtin "list.__iadd__")) := by kernel_rfl
theorem inplace_list {prog : Program} {w : World} {A : Around} {E : Value → Shared → Prop} {s : Shared} {a b : Value} {Q : Value → Shared → Prop} (ha : s.TypeIs a "list") (hb : s.TypeIs b "list") (hc : wpAny (model prog w) A (call (.builtin "list.__iadd__") [a, b]) Q E s) : wpAny (model prog w) A (inplaceOp .Add a b) Q E s := by
  unfold inplaceOp
  refine wpAny_holding ?_
  refine wpAny_bind (wpAny_typeOf ha (wpAny_bind (wpAny_of_eq ip_fill ?_)))
  show wpAny _ A (if false = true then _ else _) Q E s
  rw [if_neg Bool.false_ne_true]
  refine wpAny_bind (wpAny_binaryOp1_none (nm := "add") ha hb noFill_list_add ?_)
  refine wpAny_bind (wpAny_of_eq ip_seq ?_)
  exact wpAny_bind (wpAny_rule hc)
def rIaddS (K : PySem.W.Frag) : V → V → Hp → VK → Prop := fun x y H Q => ∃ l b xs zs, x = .ref l ∧ y = .ref b ∧ H l = some (.lst xs) ∧ SqL K H b zs ∧ xs.length + zs.length ≤ sizeLine ∧ Q (.ref l) (upd H l (.lst (xs ++ zs)))
theorem ip_cat {X : Cx} : PIp X .Add (rIaddS X.K) := by
  intro pins s σ H x y v u Q I rx ry h
  obtain ⟨l, b, xs, zs, rfl, rfl, hH, hB, hz, q⟩ := h
  cases rx
  cases ry
  obtain ⟨z, its, n, r, hl, e⟩ := I.lstM hH
  obtain ⟨its2, r2, pl2, z2⟩ := I.list hB
  have hl2 := r2.length
  obtain ⟨⟨cls2, dd2, data2, sl2⟩, e2, hc2, n2, hd2⟩ := id pl2.isList
  simp only at hc2 hd2
  subst hc2 hd2
  have hsz : its.toArray.size + its2.toArray.size ≤ sizeLine := by simp; omega
  have hlong : ¬ (!its.toArray.isEmpty && Builtin.List.listTooLong (its.toArray.size + its2.toArray.size)) = true := by rw [notLongL hsz, Bool.and_false]; exact Bool.false_ne_true
  refine inplace_list ⟨_, e, rfl⟩ ⟨_, e2, rfl⟩ (call_meets PySem.F.slot_list_iadd ⟨_, e, rfl⟩ PySem.F.entry_list_iadd (PySem.F.args_list_iadd_2 _ _) (iaddW l b its.toArray its2.toArray n n2 dd2 sl2 hlong (by simp; omega) (by omega)) ⟨e, e2, ?_⟩)
  refine ⟨.ref l, _, I.lset (its' := its ++ its2) hH e (by simp) (r.append r2) ?_, rfl, q⟩
  rw [List.length_append]
  omega
def rExtendS (K : PySem.W.Frag) : V → List V → Hp → VK → Prop := fun x vs H Q => ∃ l b xs zs, x = .ref l ∧ vs = [.ref b] ∧ H l = some (.lst xs) ∧ SqL K H b zs ∧ xs.length + zs.length ≤ sizeLine ∧ Q .non (upd H l (.lst (xs ++ zs)))
section
variable {B : Bx}
def lmAppend : LM := fun _ ds as Q => match as with | [d] => ds.length < sizeLine ∧ Q .non (ds ++ [d]) | _ => False
theorem rf_append : RfL B [false] rAppend lmAppend := by
  intro W m M a vs ds us as Q Qd mk ha rv hu h k
  have hu := hu.all rfl
  unfold lmAppend at h
  split at h
  · rename_i d
    cases hu with
    | cons r1 t1 =>
      cases t1
      exact ⟨a, vs, _, rfl, rfl, ha, by rw [rv.length]; exact h.1, k _ _ _ _ h.2 .non (rv.append (.cons r1 .nil))⟩
  · exact h.elim
def lmExtend : LM := fun M ds as Q => match as with
  | [x] => (match drf M x with
    | .lst es => ds.length + es.length ≤ sizeLine ∧ Q .non (ds ++ es)
    | _ => False)
  | _ => False
theorem rf_extend : RfL B [true] (rExtendS B.K) lmExtend := by
  intro W m M a vs ds us as Q Qd mk ha rv hu h k
  have hu := hu.reads mk
  unfold lmExtend at h
  split at h
  · rename_i x
    cases hu with
    | cons r1 t1 =>
      cases t1
      split at h
      · rename_i es z
        rw [z] at r1
        obtain ⟨b, ws, rfl, s1, s2⟩ := r1
        exact ⟨a, b, vs, ws, rfl, rfl, ha, s1, by rw [rv.length, s2.length]; exact h.1, k _ _ _ _ h.2 .non (rv.append s2)⟩
      · exact h.elim
  · exact h.elim
def lmPop : LM := fun _ ds as Q => match as with | [] => ∃ d, ds.getLast? = some d ∧ Q d ds.dropLast | _ => False
def lmPopAt : LM := fun _ ds as Q => match as with | [.int i] => 0 ≤ i ∧ i < 2 ^ 63 ∧ ∃ d, ds[i.toNat]? = some d ∧ Q d (ds.eraseIdx i.toNat) | _ => False
def lmClear : LM := fun _ ds as Q => match as with | [] => Q .non [] | _ => False
end
end Z
namespace Z
open PySem PySem.Spec PyProof.Rows L2
open Evl (Ex)
section
variable {ι : Type} {Xf : ι → Cx} {B : Bx} {wx : WX}
theorem DE.unif {e : Expr} {T : DTE} (hb : ∀ i, bx (Xf i) = B) (h : ∀ i, DE (Xf i) wx e T) : ∃ t, (∀ i, PE (Xf i) e t) ∧ RfE B wx t T := by
  refine ⟨fun σ H Q => ∀ i pins s, Inv (Xf i) pins σ H s → wpAny (model (Xf i).prog (Xf i).w) (Xf i).A (eval e (Xf i).env) (EP (Xf i) pins σ Q) (Xf i).xe s, fun i => ⟨fun pins s σ H Q I h => h i pins s I⟩, fun W0 W m σ ρ M Q Qd Ed R k h1 h2 h3 i pins s I => ?_⟩
  obtain ⟨t, p, r⟩ := h i
  rw [hb i] at r
  exact p.run pins s σ _ Q I (r W0 W m σ ρ M Q Qd Ed R k h1 h2 h3)
def DTs (X : Cx) (wx : WX) (cs : List Expr) (T : DTT) : Prop := ∃ t, PTs X cs t ∧ RfT (bx X) wx t T
def dYes : DTT := fun _ M Q _ => Q true M
theorem dts_nil {X : Cx} : DTs X wx [] dYes := ⟨_, pts_nil, fun W0 W m σ ρ M Q Qd Ed R k h1 h2 h3 => h2 true W m M h1 (Wd.le.refl W) k⟩
theorem DTs.unif {cs : List Expr} {T : DTT} (hb : ∀ i, bx (Xf i) = B) (h : ∀ i, DTs (Xf i) wx cs T) : ∃ t, (∀ i, PTs (Xf i) cs t) ∧ RfT B wx t T := by
  refine ⟨fun σ H Q => ∀ i t, PTs (Xf i) cs t → RfT B wx t T → t σ H Q, fun i => ?_, fun W0 W m σ ρ M Q Qd Ed R k h1 h2 h3 i t _ r => r W0 W m σ ρ M Q Qd Ed R k h1 h2 h3⟩
  obtain ⟨t, p, r⟩ := h i
  rw [hb i] at r
  exact ⟨fun pins s σ H Q I h => p.run pins s σ H Q I (h i t p r)⟩
def RfGk (B : Bx) (g : TG) (G : DTG) (ws : List Nat) : Prop := ∀ (W0 W : Wd) (m : Hp) (σ : L2.St) (ρ : List Ent) (v : V) (d : D) (Q : L2.St → Hp → Prop) (Qd : List Ent → Prop), Rel B W0 W σ ρ → Rp B W.F v d → G d ρ Qd → (∀ σ' ρ', Rel B W0 W σ' ρ' → wipe σ' ws = wipe σ ws → Qd ρ' → Q σ' (cat W.H m)) → g v σ (cat W.H m) Q
def DGk (X : Cx) (tg : Expr) (G : DTG) (ws : List Nat) : Prop := ∃ g, PG X tg g ∧ RfGk (bx X) g G ws
def RfGsk (B : Bx) (g : TGs) (G : DTGs) (ws : List Nat) : Prop := ∀ (W0 W : Wd) (m : Hp) (σ : L2.St) (ρ : List Ent) (v : List V) (d : List D) (Q : L2.St → Hp → Prop) (Qd : List Ent → Prop), Rel B W0 W σ ρ → RpAll B W.F v d → G d ρ Qd → (∀ σ' ρ', Rel B W0 W σ' ρ' → wipe σ' ws = wipe σ ws → Qd ρ' → Q σ' (cat W.H m)) → g v σ (cat W.H m) Q
def DGsk (X : Cx) (tg : List Expr) (G : DTGs) (ws : List Nat) : Prop := ∃ g, PGs X tg g ∧ RfGsk (bx X) g G ws
theorem wipe_get {σ : L2.St} {j : Nat} : ∀ {ws : List Nat}, (wipe σ ws)[j]? = if j ∈ ws then (if j < σ.length then some none else none) else σ[j]?
  | [] => by simp [wipe]
  | w :: ws => by
    show ((wipe σ ws).set w none)[j]? = _
    rw [List.getElem?_set, wipe_get (ws := ws), wipe_length]
    by_cases h : w = j
    · subst h; simp
    · rw [if_neg h]
      have : (j ∈ w :: ws) ↔ j ∈ ws := by simp; exact fun z => absurd z.symm h
      simp only [this]
theorem wipe_set {σ : L2.St} {i : Nat} {v : Option V} {ws : List Nat} (h : i ∈ ws) : wipe (σ.set i v) ws = wipe σ ws := by
  refine List.ext_getElem? fun j => ?_
  rw [wipe_get, wipe_get, List.length_set]
  by_cases z : j ∈ ws
  · rw [if_pos z, if_pos z]
  · rw [if_neg z, if_neg z, List.getElem?_set_ne (fun y => z (by rw [← y]; exact h))]
theorem wipe_twice {σ : L2.St} {ws : List Nat} : wipe (wipe σ ws) ws = wipe σ ws := by
  refine List.ext_getElem? fun j => ?_
  rw [wipe_get, wipe_get, wipe_length]
  split <;> rfl
theorem dgk_name {X : Cx} {pos : Pos} {i : Nat} {x : Str} {ws : List Nat} (hN : X.N.Nodup) (hw : i ∈ ws := by decide) (hi : X.N[i]? = some x := by rfl) (hx : Loc X.env.scope x := by first | exact Or.inl rfl | exact Or.inr rfl) (hf : X.fn x = true ∨ X.env.scope.names.lookup x = some .local := by first | exact .inl rfl | exact .inr rfl) : DGk X (.Name x pos) (dgName i) ws :=
  ⟨_, pg_name hN hi hx hf, fun W0 W m σ ρ v d Q Qd R r h k => k _ _ (R.set r) (wipe_set hw) h⟩
theorem dgsk_nil {X : Cx} {ws : List Nat} : DGsk X [] dgNil ws := ⟨_, pgs_nil, fun W0 W m σ ρ v d Q Qd R r h k => by
  obtain ⟨rfl, h⟩ := h
  cases r
  exact ⟨rfl, k _ _ R rfl h⟩⟩
theorem dgsk_cons {X : Cx} {e : Expr} {es : List Expr} {G : DTG} {Gs : DTGs} {ws : List Nat} (h1 : DGk X e G ws) (h2 : DGsk X es Gs ws) (hs : (assignEach (e :: es) X.env).map (·.2) = assign e X.env :: (assignEach es X.env).map (·.2) := by rfl) : DGsk X (e :: es) (dgCons G Gs) ws := by
  obtain ⟨g, p, r⟩ := h1
  obtain ⟨g', p', r'⟩ := h2
  refine ⟨_, pgs_cons p p' hs, fun W0 W m σ ρ v d Q Qd R rr h k => ?_⟩
  cases rr with
  | nil => exact h.elim
  | cons q t => exact ⟨_, _, rfl, r W0 W m σ ρ _ _ _ _ R q h fun σ' ρ' R' w' h' => r' W0 W m σ' ρ' _ _ _ _ R' t h' fun σ2 ρ2 R2 w2 h2 => k σ2 ρ2 R2 (w2.trans w') h2⟩
theorem dgk_tup {X : Cx} {es : List Expr} {Gs : DTGs} {ws : List Nat} {pos : Pos} {k n : Nat} (hc : X.calm = true) (h : DGsk X es Gs ws) (hn : (assignEach es X.env).length = n := by rfl) (hst : (assignEach es X.env).findIdx? (·.1) = none := by rfl) : DGk X (.Tuple es k pos) (dgTup n Gs) ws := by
  obtain ⟨g, p, r⟩ := h
  refine ⟨_, pg_tup hc p hn hst, fun W0 W m σ ρ v d Q Qd R rr h k => ?_⟩
  cases d with
  | tup ds =>
    cases rr with
    | tup h1 h2 => exact ⟨_, _, rfl, Evl.ex_t (W.ok.trans (cat_ex W.H m)) h1, by rw [h2.length]; exact h.1, r W0 W m σ ρ _ _ _ _ R h2 h.2 k⟩
  | _ => exact h.elim
theorem DGk.unif {tg : Expr} {G : DTG} {ws : List Nat} (hb : ∀ i, bx (Xf i) = B) (h : ∀ i, DGk (Xf i) tg G ws) : ∃ g, (∀ i, PG (Xf i) tg g) ∧ RfGk B g G ws := by
  refine ⟨fun v σ H Q => ∀ i g, PG (Xf i) tg g → RfGk B g G ws → g v σ H Q, fun i => ?_, fun W0 W m σ ρ v d Q Qd R r h1 h2 i g _ rr => rr W0 W m σ ρ v d Q Qd R r h1 h2⟩
  obtain ⟨g, p, r⟩ := h i
  rw [hb i] at r
  exact ⟨fun pins s σ H v u Q I rv h => p.run pins s σ H v u Q I rv (h i g p r)⟩
end
def wipeE (ρ : List Ent) : List Nat → List Ent
  | [] => ρ
  | v :: vs => (wipeE ρ vs).set v .un
theorem Rel.wipe {B : Bx} {W0 W : Wd} {σ : L2.St} {ρ : List Ent} (R : Rel B W0 W σ ρ) : ∀ ws : List Nat, Rel B W0 W (L2.wipe σ ws) (wipeE ρ ws)
  | [] => R
  | _ :: ws => (R.wipe ws).unset
def dLcI (G : DTG) (U : DTT) (T : DTE) (ws : List Nat) (xs : List D) (ρ : List Ent) (M : Mu) (Q : List D → Mu → Prop) : Prop := ∃ I : Nat → List D → Mu → Prop, I 0 [] M ∧
  (∀ i x, xs[i]? = some x → ∀ acc M', I i acc M' → acc.length < sizeLine ∧ G x (wipeE ρ ws) fun ρ2 => U ρ2 M' (fun b M2 => if b = true then T ρ2 M2 (fun d M3 => I (i + 1) (acc ++ [d]) M3) (fun _ _ => False) else I (i + 1) acc M2) (fun _ _ => False)) ∧ ∀ acc M', I xs.length acc M' → Q acc M'
def dLc (Ti : DTA) (G : DTG) (U : DTT) (T : DTE) (ws : List Nat) : DTA := fun ρ M Q E => Ti ρ M (fun xs M' => dLcI G U T ws xs ρ M' Q) E
section
variable {X : Cx} {wx : WX} {elt tg iter : Expr} {ifs : List Expr} {scope : Scope} {own : List (Str × Nat)} {pos : Pos} {Ti : DTA} {G : DTG} {U : DTT} {T : DTE}
abbrev blkF (X : Cx) (scope : Scope) (z : Shared × Hp × Addr × List (Str × Addr) × List Addr) : Cx := X.blk z.1 z.2.1 scope (compEnvC scope z.2.2.2.1 z.2.2.1 X.env) z.2.2.2.2
abbrev wx0 : WX := fun _ _ _ _ => False
theorem le_lay2 {W1 W : Wd} {p : Addr} {o : HO} (le : W1.le W) (hn : W1.H p = none) (hF : W.F p = none) : W1.le (W.lay p o hF) := ⟨le.f, fun a u h => by
    show upd W.H p o a = some u
    rw [upd_ne (fun y => by subst y; rw [hn] at h; cases h)]; exact le.h a u h, le.n⟩
theorem rf_lc {B : Bx} {wi : TI} {g : TG} {tt : TT} {te : TE} {ws : List Nat} (ri : RfI B wx wi Ti) (rg : RfGk B g G ws) (rt : RfT B wx0 tt U) (re : RfE B wx0 te T) : RfN B wx (tLc wi g tt te ws) (dLc Ti G U T ws) := by
  refine fun W0 W m σ ρ M Q Qd Ed R mk h1 h2 h3 => ri W0 W m σ ρ M _ _ _ R mk h1 (fun xs J W1 m1 M1 q le mk1 ok => fun Dl hD => ?_) h3
  obtain ⟨I, i0, istep, iend⟩ := q
  have hD1 := (cat_new hD).1
  have R1 := R.mono le
  refine ⟨fun i n H => ∃ W m M acc us, cat W.H m = H ∧ W1.le W ∧ MOk B W M m ∧ W.H Dl = some (.lst us) ∧ W.F Dl = none ∧ RpAll B W.F us acc ∧ I i acc M ∧ i + n = xs.length, ⟨xs.length, W1.lay Dl (.lst []) (W1.fnone hD1), m1, M1, [], [], cat_upd.symm, W1.le_lay hD1, mk1.lay hD, upd_same, W1.fnone hD1, .nil, i0, Nat.zero_add _⟩, ?_⟩
  rintro i n H ⟨W, m, M, acc, us, rfl, le1, mk, s1, s2, s3, s4, s5⟩
  obtain ⟨go, stop⟩ := ok i W m M (R1.le.trans le1) le1.f mk
  cases z : xs[i]? with
  | none =>
    have hl : xs.length ≤ i := List.getElem?_eq_none_iff.mp z
    have e : i = xs.length := by omega
    subst e
    exact .inl ⟨stop hl, h2 acc Dl us W m M (iend acc M s4) (le.trans le1) mk (ex_none le.h hD1) s1 s2 s3⟩
  | some d =>
    obtain ⟨g1, g2⟩ := go d z
    have hl := (List.getElem?_eq_some_iff.mp z).1
    refine .inr ⟨g1, fun H' => ∃ W m M acc us, cat W.H m = H' ∧ W1.le W ∧ MOk B W M m ∧ W.H Dl = some (.lst us) ∧ W.F Dl = none ∧ RpAll B W.F us acc ∧ I (i + 1) acc M, fun H' ⟨W, m, M, acc, us, e1, e2, e3, e4, e5, e6, e7⟩ => ⟨n - 1, by omega, W, m, M, acc, us, e1, e2, e3, e4, e5, e6, e7, by omega⟩, fun x H' y => ?_⟩
    obtain ⟨W', le', e', mk', rv⟩ := g2 x H' y
    subst e'
    obtain ⟨hz, body⟩ := istep i d z acc M s4
    have Rw : Rel B W0 W' (wipe σ ws) (wipeE ρ ws) := ((R1.mono le1).mono le').wipe ws
    refine rg W0 W' m _ _ x d _ _ Rw rv body fun σ2 ρ2 R2 w2 h' => ⟨w2.trans (by rw [wipe_twice]), ?_⟩
    refine rt W0 W' m σ2 ρ2 M _ _ _ R2 mk' h' (fun b W3 m3 M3 q3 le3 mk3 => ?_) fun _ _ _ _ z => z.elim
    have t1 := le3.h _ _ (le'.h _ _ s1)
    have t2 := le3.n _ (by rw [le'.h _ _ s1]; exact fun y => by cases y) (le'.n _ (by rw [s1]; exact fun y => by cases y) s2)
    cases b with
    | false => exact ⟨W3, m3, M3, acc, us, rfl, (le1.trans le').trans le3, mk3, t1, t2, (s3.mono le'.f).mono le3.f, q3⟩
    | true =>
      refine re W0 W3 m3 σ2 ρ2 M3 _ _ _ (R2.mono le3) mk3 q3 (fun d4 v4 W4 m4 M4 q4 le4 mk4 r4 => ?_) fun _ _ _ _ z => z.elim
      have u1 := le4.h _ _ t1
      have u2 := le4.n _ (by rw [t1]; exact fun y => by cases y) t2
      have u3 := ((s3.mono le'.f).mono le3.f).mono le4.f
      refine ⟨us, cat_some u1, by rw [u3.length]; exact hz, ?_⟩
      exact ⟨W4.lay Dl (.lst (us ++ [v4])) u2, m4, M4, acc ++ [d4], us ++ [v4], cat_upd.symm, le_lay2 (((le1.trans le').trans le3).trans le4) hD1 u2, mk4.relay u1 u2, upd_same, u2, u3.append (.cons r4 .nil), q4⟩
theorem dn_lc (hN : X.N.Nodup) (hi : DI X wx tg iter Ti) (ok : BlkOk X.N X.env.scope scope own) (hg : ∀ z, DGk (blkF X scope z) tg G (own.map (·.2))) (ht : ∀ z, DTs (blkF X scope z) wx0 ifs U) (he : ∀ z, DE (blkF X scope z) wx0 elt T) (hc : X.calm = true := by rfl) (hs : ∀ x, foldedSetIterable iter X.env x = pure x := by intro _; rfl) :
    DN X wx (.ListComp elt [⟨tg, iter, ifs, 0⟩] scope pos) (dLc Ti G U T (own.map (·.2))) := by
  obtain ⟨wi, p, ri⟩ := hi
  obtain ⟨g, pg, rg⟩ := DGk.unif (Xf := blkF X scope) (B := bx X) (fun _ => rfl) hg
  obtain ⟨tt, pt, rt⟩ := DTs.unif (Xf := blkF X scope) (B := bx X) (fun _ => rfl) ht
  obtain ⟨te, pe, re⟩ := DE.unif (Xf := blkF X scope) (B := bx X) (fun _ => rfl) he
  exact ⟨_, pe_lc hc hN p ok (fun s H C cl fp => pg (s, H, C, cl, fp)) (fun s H C cl fp => pt (s, H, C, cl, fp)) (fun s H C cl fp => pe (s, H, C, cl, fp)) hs, rf_lc ri rg rt re⟩
theorem ps_lc {j : Nat} {y : Str} {py spos : Pos} (hN : X.N.Nodup) (hi : DI X wx tg iter Ti) (ok : BlkOk X.N X.env.scope scope own) (hg : ∀ z, DGk (blkF X scope z) tg G (own.map (·.2))) (ht : ∀ z, DTs (blkF X scope z) wx0 ifs U) (he : ∀ z, DE (blkF X scope z) wx0 elt T)
    (hsw : swapsWith (.ListComp elt [⟨tg, iter, ifs, 0⟩] scope pos) (some (.Name y py)) spos.line X.env = pure true) (hy : X.N[j]? = some y) (hyl : X.env.scope.names.lookup y = some .local) (hc : X.calm = true) (hs : ∀ x, foldedSetIterable iter X.env x = pure x) :
    ∃ t, PS X (.Assign [.Name y py] (.ListComp elt [⟨tg, iter, ifs, 0⟩] scope pos) spos) (tAsg t (gName j)) ∧ RfN (bx X) wx t (dLc Ti G U T (own.map (·.2))) := by
  obtain ⟨wi, p, ri⟩ := hi
  obtain ⟨g, pg, rg⟩ := DGk.unif (Xf := blkF X scope) (B := bx X) (fun _ => rfl) hg
  obtain ⟨tt, pt, rt⟩ := DTs.unif (Xf := blkF X scope) (B := bx X) (fun _ => rfl) ht
  obtain ⟨te, pe, re⟩ := DE.unif (Xf := blkF X scope) (B := bx X) (fun _ => rfl) he
  exact ⟨_, ps_setLc hc hN hy hyl hsw p ok (fun s H C cl fp => pg (s, H, C, cl, fp)) (fun s H C cl fp => pt (s, H, C, cl, fp)) (fun s H C cl fp => pe (s, H, C, cl, fp)) hs, rf_lc ri rg rt re⟩
end
end Z
namespace Z
open PySem PySem.Spec PyProof.Rows L2
open Evl (Ex)
abbrev SO := Str → List D → (D → Prop) → Prop
def RfSM (B : Bx) (r : V → List V → Hp → VK → Prop) (o : SO) : Prop := ∀ (W : Wd) (m : Hp) (M : Mu) (x : Str) (us : List V) (ds : List D) (Q : VK) (Qd : D → Prop), MOk B W M m → RpRs B W.F (cat W.H m) us ds → o x ds Qd →
  (∀ d v W', Qd d → W.le W' → MOk B W' M m → Rp B W'.F v d → Q v (cat W'.H m)) → r (.str x) us (cat W.H m) Q
def onStr (x : D) (P : Str → Prop) : Prop := match x with | .str z => P z | _ => False
def dSM (o : SO) (To : DTE) (R : DTA) : DTE := fun ρ M Q E => To ρ M (fun x M1 => onStr x fun z => R ρ M1 (fun as M2 => o z (as.map (drf M2)) fun d => Q d M2) E) E
section
variable {X : Cx} {wx : WX} {e a ob ce : Expr} {es : List Expr} {T Ta To : DTE} {R : DTA} {pos : Pos} {ms : List Bool} {r : V → List V → Hp → VK → Prop} {o : SO}
theorem de_sm (pb : ∀ {to t}, PE X ob to → PA X (e :: es) t → PE X ce (tBM X.K "str" r to t)) (hr : RfSM (bx X) r o) (ho : DR X wx ob To) (ha : DM X wx ms (e :: es) R) : DE X wx ce (dSM o To R) := by
  obtain ⟨to, po, ro⟩ := ho
  obtain ⟨t, pa, ra⟩ := ha
  refine ⟨_, pb po pa, fun W0 W m σ ρ M Q Qd Ed Re k h1 h2 h3 => ro W0 W m σ ρ M _ _ Ed Re k h1 (fun d v W' m' M' q le k' hv => ?_) h3⟩
  cases d with
  | str z =>
    cases hv
    refine ⟨rfl, ra W0 W' m' σ ρ M' _ _ Ed (Re.mono le) k' q (fun ds us W2 m2 M2 q2 le2 k2 hu => ?_) (h3.up le)⟩
    exact hr W2 m2 M2 z us _ Q _ k2 (hu.reads k2) q2 fun d3 v3 W3 q3 le3 k3 r3 => h2 d3 v3 W3 m2 M2 q3 ((le.trans le2).trans le3) k3 r3
  | _ => exact q.elim
end
section
variable {B : Bx}
def soStarts : SO := fun x ds Q => match ds with | [.str b] => True ∧ Q (.bl (Txt.startswith x b)) | _ => False
def soFind : SO := fun x ds Q => match ds with | [.str b] => True ∧ Q (.int (Txt.find x b)) | _ => False
def soStrip : SO := fun x ds Q => match ds with | [.str b] => x.length ≤ sizeLine ∧ Q (.str (Txt.stripChars x b)) | _ => False
def soPart : SO := fun x ds Q => match ds with | [.str b] => (b.length == 0) = false ∧ x.length ≤ sizeLine ∧ Q (.tup [.str (Txt.partition x b).1, .str (Txt.partition x b).2.1, .str (Txt.partition x b).2.2]) | _ => False
def soSplit : SO := fun x ds Q => match ds with | [.str b] => (b.length == 0) = false ∧ x.length + 2 ≤ sizeLine ∧ Q (.lst ((Txt.split x b).map .str)) | _ => False
def strsD : List D → Option (List Str)
  | [] => some []
  | .str x :: r => (strsD r).map (x :: ·)
  | _ :: _ => none
theorem strsD_of : ∀ {ds : List D} {ys : List Str}, strsD ds = some ys → ds = ys.map .str
  | [], ys, h => by cases h; rfl
  | .str x :: r, ys, h => by
    unfold strsD at h
    obtain ⟨zs, h1, h2⟩ := Option.map_eq_some_iff.mp h
    subst h2
    rw [strsD_of h1]; rfl
  | .non :: _, _, h => by cases h
  | .bl _ :: _, _, h => by cases h
  | .int _ :: _, _, h => by cases h
  | .lst _ :: _, _, h => by cases h
  | .tup _ :: _, _, h => by cases h
  | .obj _ _ :: _, _, h => by cases h
  | .ref _ :: _, _, h => by cases h
  | .ty _ :: _, _, h => by cases h
  | .cls _ :: _, _, h => by cases h
  | .exc _ :: _, _, h => by cases h
  | .dic _ _ :: _, _, h => by cases h
theorem strsD_map : ∀ ys : List Str, strsD (ys.map .str) = some ys
  | [] => rfl
  | y :: ys => by show (strsD (ys.map .str)).map (y :: ·) = _; rw [strsD_map ys]; rfl
def joinD (x : Str) (xs : List D) (Q : D → Prop) : Prop := ∃ ys, strsD xs = some ys ∧ (ys.map (·.length)).sum + ys.length * x.length ≤ 16777216 ∧ Q (.str (Txt.join x ys))
def soJoin : SO := fun x ds Q => match ds with | [.lst xs] => joinD x xs Q | [.tup xs] => joinD x xs Q | _ => False
theorem rf_join : RfSM B (fun x xs H Q => ∃ a p, ∃ ys : List Str, x = .str a ∧ xs = [.ref p] ∧ (SqL B.K H p (ys.map V.str) ∨ SqT B.K H p (ys.map V.str)) ∧ (ys.map (·.length)).sum + ys.length * a.length ≤ 16777216 ∧ Q (.str (Txt.join a ys)) H) soJoin := by
  intro W m M x us ds Q Qd mk hu h k
  have ok := W.ok.trans (cat_ex W.H m)
  unfold soJoin at h
  split at h
  · obtain ⟨ys, e, hz, h⟩ := h
    have e := strsD_of e
    subst e
    cases hu with
    | cons r1 t1 =>
      cases t1
      obtain ⟨p, vs, rfl, s1, s2⟩ := r1
      rw [s2.strs] at s1
      exact ⟨x, p, ys, rfl, rfl, .inl s1, hz, k _ _ W h (Wd.le.refl W) mk (.str _)⟩
  · obtain ⟨ys, e, hz, h⟩ := h
    have e := strsD_of e
    subst e
    cases hu with
    | cons r1 t1 =>
      cases t1
      cases r1 with
      | tup s1 s2 =>
        rw [s2.strs] at s1
        exact ⟨x, _, ys, rfl, rfl, .inr (Evl.ex_t ok s1), hz, k _ _ W h (Wd.le.refl W) mk (.str _)⟩
  · exact h.elim
def lmInsert : LM := fun _ ds as Q => match as with | [.int i, d] => ds.length < sizeLine ∧ 0 ≤ i ∧ i < 2 ^ 63 ∧ Q .non (ds.take i.toNat ++ [d] ++ ds.drop i.toNat) | _ => False
def lmSet : LM := fun _ ds as Q => match as with | [.int i, d] => ∃ j, ixN ds.length i = some j ∧ Q .non (ds.set j d) | _ => False
def rSetLv : V → List V → Hp → VK → Prop := fun x us H Q => ∃ i v, us = [i, v] ∧ rSetL x i v H fun H' => Q .non H'
theorem rf_setL : RfL B [true, false] rSetLv lmSet := by
  intro W m M a vs ds us as Q Qd mk ha rv hu h k
  unfold lmSet at h
  split at h
  · cases hu with
    | bor r1 t1 =>
      cases t1 with
      | dat r2 t2 =>
        cases t2
        have := rp_int r1
        subst this
        obtain ⟨j, e, h⟩ := h
        exact ⟨_, _, rfl, a, vs, _, j, rfl, rfl, ha, by rw [rv.length]; exact e, k _ _ _ _ h .non (rv.set r2 j)⟩
  · exact h.elim
def lmAugS (f : Int → Int → Int) (n : Int) : LM := fun _ ds as Q => match as with | [.int i] => ∃ j x, ixN ds.length i = some j ∧ ds[j]? = some (.int x) ∧ Q .non (ds.set j (.int (f x n))) | _ => False
end
section
variable {X : Cx} {wx : WX} {e a b : Expr} {T Ta : DTE} {pos tpos p2 : Pos} {i : Nat} {x : Str}
def dStore (i : Nat) (Tk Te : DTE) : DTS := fun DD ρ M => Te ρ M (fun d M1 => lmPre ρ M1 i ∧ Tk ρ M1 (fun k M2 => lmAt lmSet ρ M2 i [k, d] fun _ ρ' M' => DD.nx ρ' M') fun C => DD.ex C ρ) fun C => DD.ex C ρ
theorem ds_store (i : Nat) (pg : ∀ {tb}, PE X b tb → PG X (.Subscript (.Name x p2) b tpos) (gSub (tVar i) tb rSetL)) (he : DE X wx e T) (hk : DR X wx b Ta) (hs : swapsWithSole [.Subscript (.Name x p2) b tpos] e pos.line X.env = pure false := by rfl) (hw : swappedStores [.Subscript (.Name x p2) b tpos] e X.env = pure none := by rfl) (h1 : (assignEach [.Subscript (.Name x p2) b tpos] X.env).map (·.2) = [assign (.Subscript (.Name x p2) b tpos) X.env] := by rfl) :
    DS X wx (.Assign [.Subscript (.Name x p2) b tpos] e pos) (dStore i Ta T) := by
  obtain ⟨t, p, r⟩ := he
  obtain ⟨tk, pk, rk⟩ := hk
  refine ⟨_, ps_asg p (pg pk) hs hw h1, fun W0 W m σ ρ M D DD R mk h k => r W0 W m σ ρ M _ _ _ R mk h (fun d v W' m' M' q le mk' hv => ?_) fun C W' m' M' q le mk' => k.ex C W' m' σ ρ M' (R.mono le) mk' q⟩
  obtain ⟨hp, q⟩ := q
  obtain ⟨aa, vs, s1, s2⟩ := lmPre_of (R.mono le) mk' hp
  refine ⟨_, s1, rk W0 W' m' σ ρ M' _ _ _ (R.mono le) mk' q (fun kd kv W2 m2 M2 q2 le2 mk2 rk2 => ?_) fun C W2 m2 M2 q2 le2 mk2 => k.ex C W2 m2 σ ρ M2 ((R.mono le).mono le2) mk2 q2⟩
  obtain ⟨a', vs', s1', s2', s3⟩ := rf_lmut (B := bx X) (Q := fun _ H' => D.nx σ H') rf_setL ((R.mono le).mono le2) mk2 (.bor rk2 (.dat (hv.mono le2.f) .nil)) q2 fun d v W3 m3 ρ3 M3 q3 R3 mk3 _ => k.nx W3 m3 σ ρ3 M3 R3 mk3 q3
  rw [s1] at s1'
  cases s1'
  obtain ⟨_, _, e, s3⟩ := s3
  cases e
  exact s3
def dAugL (i : Nat) (Te : DTE) : DTS := fun DD ρ M => Te ρ M (fun d M1 => lmAt lmExtend ρ M1 i [d] fun _ ρ' M' => DD.nx ρ' M') fun C => DD.ex C ρ
def rIaddv (K : PySem.W.Frag) : V → List V → Hp → VK → Prop := fun x us H Q => ∃ y, us = [y] ∧ rIaddS K x y H fun v H' => v = x ∧ Q .non H'
theorem rf_iadd {B : Bx} : RfL B [true] (rIaddv B.K) lmExtend := by
  intro W m M a vs ds us as Q Qd mk ha rv hu h k
  obtain ⟨l, b, xs, zs, e1, e2, h1, h2, h3, h4⟩ := rf_extend W m M a vs ds us as Q Qd mk ha rv hu h k
  exact ⟨.ref b, e2, l, b, xs, zs, e1, rfl, h1, h2, h3, e1.symm, h4⟩
theorem set_same {σ : L2.St} {i : Nat} {v : Option V} (h : σ[i]? = some v) : σ.set i v = σ := by
  refine List.ext_getElem? fun j => ?_
  rw [List.getElem?_set]
  split
  · rename_i z
    subst z
    rw [h]
    have := (List.getElem?_eq_some_iff.mp h).1
    simp [this]
  · rfl
theorem ds_augL (i : Nat) (hN : X.N.Nodup) (he : DR X wx e T) (hi : X.N[i]? = some x := by rfl) (hx : Loc X.env.scope x := by first | exact Or.inl rfl | exact Or.inr rfl) (hf : X.fn x = true ∨ X.env.scope.names.lookup x = some .local := by first | exact .inl rfl | exact .inr rfl) : DS X wx (.AugAssign (.Name x p2) .Add e pos) (fun DD ρ M => lmPre ρ M i ∧ dAugL i T DD ρ M) := by
  obtain ⟨t, p, r⟩ := he
  refine ⟨_, ps_aug hN hi hx p ip_cat hf, fun W0 W m σ ρ M D DD R mk h k => ?_⟩
  obtain ⟨hp, h⟩ := h
  obtain ⟨aa, vs, s1, s2⟩ := lmPre_of R mk hp
  refine ⟨_, s1, r W0 W m σ ρ M _ _ _ R mk h (fun d v W' m' M' q le mk' hv => ?_) fun C W' m' M' q le mk' => k.ex C W' m' σ ρ M' (R.mono le) mk' q⟩
  obtain ⟨a', vs', s1', s2', s3⟩ := rf_lmut (B := bx X) (Q := fun _ H' => D.nx σ H') rf_iadd (R.mono le) mk' (.bor hv .nil) q fun d v W3 m3 ρ3 M3 q3 R3 mk3 _ => k.nx W3 m3 σ ρ3 M3 R3 mk3 q3
  rw [s1] at s1'
  cases s1'
  obtain ⟨y, e, l, b, xs, zs, e1, e2, h1, h2, h3, h4, h5⟩ := s3
  cases e
  refine ⟨l, b, xs, zs, e1, e2, h1, h2, h3, ?_⟩
  show D.nx (σ.set i (some (.ref l))) _
  rw [h4, set_same s1]
  exact h5
def dAugS (f : Int → Int → Int) (n : Int) (i : Nat) (Tk : DTE) : DTS := fun DD ρ M => lmPre ρ M i ∧ Tk ρ M (fun k M2 => lmAt (lmAugS f n) ρ M2 i [k] fun _ ρ' M' => DD.nx ρ' M') fun C => DD.ex C ρ
end
end Z
namespace Z
open PySem PySem.Spec PyProof.Rows L2
open Evl (Ex)
section
variable {X : Cx} {wx : WX} {e : Expr} {st : Stmt} {rest : List Stmt}
end
structure XcF (B : Bx) (n : Str) : Prop where
  mg : B.mg n = some (.ref (B.cl n))
  xc : PySem.W.excIn B.K (B.cl n) He.veBase "ValueError.__new__" = true
  kp : PySem.W.keepIn B.K (.ref (B.cl n)) = true
  sb : PySem.W.subIn B.K (.ref (B.cl n)) (.type "BaseException") = some true
  ty : PySem.W.typeIn B.K (.ref (B.cl n)) = some (.type "type")
theorem XcF.of {B : Bx} {n : Str} {a : Addr} (h0 : B.mg n = some (.ref a)) (h : PySem.W.excIn B.K a He.veBase "ValueError.__new__" = true ∧ PySem.W.keepIn B.K (.ref a) = true ∧ PySem.W.subIn B.K (.ref a) (.type "BaseException") = some true ∧ PySem.W.typeIn B.K (.ref a) = some (.type "type")) : XcF B n := by
  have e := cl_of h0
  obtain ⟨h1, h2, h3, h4⟩ := h
  refine ⟨?_, ?_, ?_, ?_, ?_⟩ <;> rw [e] <;> assumption
def dRaise (n : Str) : DTS := fun DD ρ M => DD.ex n ρ M
section
variable {X : Cx} {wx : WX} {pos p p2 pos' : Pos}
theorem ds_raise {n msg : Str} {j : Nat} (tk : Takes X wx) (h : XcF (bx X) n) (hc : X.calm = true := by rfl) (hg : Gl X n := by rfl) (hd : (n == ("__debug__" : Str)) = false := by decide) : DS X wx (.Raise (some (.Call (.Name n p) [.Constant (.str msg) j p2] [] pos')) none pos) (dRaise n) :=
  ⟨_, ps_raise hc tk (pmk_own PySem.F.excBase_ValueError h.xc h.mg h.kp (raises_own h.sb h.ty) hg hd), fun W0 W m σ ρ M D DD R mk q k => k.ex n W m σ ρ M R mk q⟩
end
section
variable {X : Cx} {pins : List (Addr × Obj)} {σ : L2.St} {H : Hp} {s sI : Shared} {a : Addr} {o : HO}
theorem inv_track (J : Inv X pins σ H sI) (K : Inv X pins σ H s) (hex : X.ex = []) (na : H a = none) (fr : sI.heap.get? a = none) (new : ObjOk X.prog X.w (upd H a o) s.heap a o) : Inv X pins σ (upd H a o) s := by
  have ne : ∀ {b : Addr} {u : Obj}, sI.heap.get? b = some u → b ≠ a := fun e z => by rw [z, fr] at e; cases e
  have tr : ∀ {b : Addr} {u : HO}, H b = some u → upd H a o b = some u := fun e => by rw [upd_ne (ne_of_none e na)]; exact e
  refine ⟨K.ok, K.os, K.bare, ⟨K.base.keep, K.base.slot, fun b u e n hx => ?_, K.base.there, fun b xs e => tr (K.base.tups b xs e), fun b u v e => tr (K.base.frzs b u v e), fun b ps e => ?_⟩, K.loc, K.cell, ?_, fun x c e => ?_, fun q hq => ?_, fun b u e => ?_, K.len⟩
  · obtain ⟨u', e'⟩ := J.base.there b u e hx
    rw [upd_ne (ne e')]; exact K.base.free b u e n hx
  · obtain ⟨more, e'⟩ := K.base.tbls b ps e
    exact ⟨more, tr e'⟩
  · obtain ⟨mm, ⟨ol, _, _, e, _⟩, _⟩ := J.loc
    rw [upd_ne (ne e)]; exact K.free
  · obtain ⟨v, hv⟩ := J.cell x c e
    obtain ⟨u, hu, _⟩ := hv
    rw [upd_ne (ne hu)]; exact K.freeC x c e
  · obtain ⟨q1, q2, q3⟩ := K.pin q hq
    refine ⟨q1, ?_, q3⟩
    rw [upd_ne (ne (J.pin q hq).1)]; exact q2
  · by_cases z : b = a
    · subst z; rw [upd_same] at e; cases e; exact new
    · rw [upd_ne z] at e
      exact (K.hok b u e).stay (fun _ _ _ q => q) (fun _ q => tr q) fun _ _ q => tr q
theorem excAt_ok {P : Program} {w : World} {H' : Hp} {h : Heap} {C : Addr} {oe : Obj} {vs : Array Value} (he : h.get? a = some oe) (hz : Zc (.ref C) none oe) (hd : oe.data = .fields vs) : ObjOk P w H' h a (.ext (ExcAt a C)) :=
  ⟨⟨oe, vs, he, hz.1, hz.2, hd⟩, ⟨oe, he⟩, fun h1 h2 ⟨o1, v1, e1, r⟩ k => ⟨o1, v1, k _ e1, r⟩⟩
theorem inv_hot (I : Inv X pins σ H s) : Inv (X.suite a (X.pn ++ pins)) [] σ H s :=
  ⟨I.ok.suite _ _, I.os, I.bare, I.base, I.loc, I.cell, I.free, I.freeC, fun q hq => I.pin q (by rw [List.append_nil] at hq; exact hq), I.hok, I.len⟩
theorem inv_cool {pn' : List (Addr × Obj)} (I : Inv (X.suite a (X.pn ++ pins)) pn' σ H s) (ok : X.Ok) : Inv X pins σ H s :=
  ⟨ok, I.os, I.bare, I.base, I.loc, I.cell, I.free, I.freeC, fun q hq => I.pin q (List.mem_append_left _ hq), I.hok, I.len⟩
end
def endsGo (i : Nat) (D : Ends) : Ends := { nx := fun σ H => D.nx (σ.set i none) H, rt := D.rt, bk := fun σ H => D.bk (σ.set i none) H, ct := fun σ H => D.ct (σ.set i none) H }
def wTrk (K : PySem.W.Frag) (c : Value) (i : Nat) (ts : TS) (Wo : WX) (D : Ends) : WX := fun cls d σ H => ∃ b C, cls = .ref C ∧ d = none ∧ PySem.W.exmOne K (.ref C) c = some b ∧
  (b = true → ∀ a, H a = none → ts (endsGo i D) (σ.set i (some (.ref a))) (upd H a (.ext (ExcAt a C)))) ∧ (b = false → Wo (.ref C) none σ H)
section
variable {X : Cx} {x n : Str} {c : Value} {i : Nat} {body suite : List Stmt} {b₀ : Stmt} {np pos pos' : Pos} {tb : WX → TS} {ts : TS} {Wo : WX}
abbrev landed (X : Cx) (pins : List (Addr × Obj)) (D : Ends) (hd : ExceptHandler) : Value → Shared → Prop := fun e s1 =>
  wpAny (model X.prog X.w) X.A (noteFrame e X.env) (fun _ s2 => wpAny (model X.prog X.w) X.A (setFlight e none) (fun _ s3 => wpAny (model X.prog X.w) X.A (handleBy e X.env [hd]) (SP X pins D) X.xe s3) X.xe s2) X.xe s1
theorem takes_trk {pins : List (Addr × Obj)} {D : Ends} (ok : X.Ok) (hs : X.stack = X.env :: X.outer) (hf : X.env.frame = some X.env.locals) (hex : X.ex = []) (hN : X.N.Nodup) (hi : X.N[i]? = some n) (hln : X.env.kindOf n = some .local) (hc : Names X x c) (tk : Takes X Wo)
    (hsu : ∀ (a : Addr) (pn : List (Addr × Obj)), PSs (X.suite a pn) (b₀ :: suite) ts) : Takes (X.tr (X.pn ++ pins) (landed X pins D (.ExceptHandler (some (.Name x np)) (some n) (b₀ :: suite) pos'))) (wTrk X.K c i ts Wo D) := by
  intro u s' xx
  obtain ⟨a, B, sI, pins', σ', H', cls, d, rfl, J', nb, up, sky, na, os, ag, b, C, rfl, rfl, hb1, hyes, hno⟩ := xx
  have J : Inv X pins σ' H' sI := J'.ofTry ok
  have hfr : X.A.frames = some (X.env :: X.outer) := ok.frames.trans (congrArg some hs)
  have sky : Sky B X.stack a (Zc (.ref C) none) X.env.locals s'.heap := sky
  rw [hs] at sky
  refine Sky.land Zc.steady hfr hf sky fun h3 fl3 up3 => ?_
  have J3 : Inv X pins σ' H' { s' with heap := h3 } := J.landed nb fl3.1 (up.trans up3) os ag
  obtain ⟨oe3, vs3, he3, hz3, hd3⟩ := fl3.there
  have nfr : a ∉ frs (X.env :: X.outer) := fun hm => by
    obtain ⟨_, o', e', hnf⟩ := fl3.2.2.1.mem hm
    rw [he3] at e'
    cases e'
    exact hnf _ hd3
  have fr : sI.heap.get? a = none := by
    cases q : sI.heap.get? a with
    | none => rfl
    | some o =>
      have z := nb a o q (by rw [hs]; exact nfr)
      rw [fl3.2.1] at z
      cases z
  have S3 : Inv (X.suite a (X.pn ++ pins)) [] σ' H' { s' with heap := h3 } := inv_hot J3
  refine wpAny_handleBy_cons (codeAny_handlers_test ?_) (by intro q; cases q)
  have LM := PySem.W.exm_one (M := model X.prog X.w) J3.kIn (fun A Q E s k q => wpAny_typeOf_ref (k _ _ he3) (by rw [hz3.1]; exact q)) hb1
  have test : ∀ {Q E : Value → Shared → Prop}, Q c { s' with heap := h3 } → wpAny (model X.prog X.w) (X.A.mark (some (.ref a))) (eval (.Name x np) X.env) Q E { s' with heap := h3 } := fun {Q E} q => by
    obtain ⟨hg, hdbg, hm | ⟨hm, hv, hnn⟩⟩ := hc
    · exact ld_glob S3 hg hm q hdbg
    · exact ld_blt S3 hg hm hv q hnn hdbg
  refine test (LM.here ?_)
  cases b with
  | true =>
    refine codeAny_handlers_suite_as (HandSPX.lands_againZ fl3 fun h4 fl4 up4 => ?_)
    obtain ⟨oe4, vs4, he4, hz4, hd4⟩ := fl4.there
    have J4 := inv_track J (J.landed (s' := { s' with heap := h4 }) nb fl4.1 ((up.trans up3).trans up4) os ag) hex na fr (excAt_ok he4 hz4 hd4)
    refine store_ok (X := X.suite a (X.pn ++ pins)) (v := .ref a) (inv_hot J4) hN hi (.inl hln) rfl (fun s5 S5 => ?_) (.inr hln)
    refine wpAny_mono ((hsu a (X.pn ++ pins)).run [] s5 _ _ _ S5 (hyes rfl a na)) (fun f s6 hsp => ?_) (fun _ _ z => z.elim)
    have fin : ∀ {σ6 : L2.St} {H6 : Hp} {Q : Shared → Prop}, Inv (X.suite a (X.pn ++ pins)) [] σ6 H6 s6 → (∀ s7, Inv X pins (σ6.set i none) H6 s7 → Q s7) → wpAny (model X.prog X.w) X.A (do bindName X.env n .none; unbindBehindTheSuite X.env n pos') (fun _ s7 => Q s7) X.xe s6 :=
      fun {σ6 H6 Q} S6 hq => gone_ok (inv_cool S6 ok) hN hi hln hq
    cases f with
    | next => obtain ⟨σ6, H6, S6, q6⟩ := hsp; exact fin S6 fun s7 J7 => ⟨_, _, J7, q6⟩
    | brk => obtain ⟨σ6, H6, S6, q6⟩ := hsp; exact fin S6 fun s7 J7 => ⟨_, _, J7, q6⟩
    | cont => obtain ⟨σ6, H6, S6, q6⟩ := hsp; exact fin S6 fun s7 J7 => ⟨_, _, J7, q6⟩
    | ret u => obtain ⟨v6, σ6, H6, S6, r6, q6⟩ := hsp; exact fin S6 fun s7 J7 => ⟨_, _, _, J7, r6, q6⟩
  | false =>
    refine wpAny_handleBy_nil ?_
    obtain ⟨k1, k2, k3, oe, vs, T, oT, ts', he, hz, hd, h1, hr⟩ := id fl3
    unfold PySem.passOn
    refine wpAny_bind (wpAny_field he hd h1 ?_)
    rw [if_neg (show ¬ ((Value.ref T == Value.none) = true) by simp)]
    have fly : wpAny (model X.prog X.w) X.A (setFlight (.ref a) X.env.frame) (fun _ s4 => wpAny (model X.prog X.w) X.A (throw (.ref a) : Sem Flow) (SP X pins D) X.xe s4) X.xe { s' with heap := h3 } := by
      rw [hf]
      exact HandSPX.setFlight_upZ fl3 fun h4 hh4 up4 => wpAny_throw (tk _ _ ⟨a, B, sI, pins, σ', H', _, _, rfl, J, nb, (up.trans up3).trans up4, .inr (.inr (by rw [hs]; exact hh4)), na, os, ag, hno rfl⟩)
    first
      | exact wpAny_bind (wpAny_pure (wpAny_bind fly))
      | exact wpAny_bind fly
theorem ps_tryT (hs : X.stack = X.env :: X.outer) (hf : X.env.frame = some X.env.locals) (hex : X.ex = []) (hN : X.N.Nodup) (hi : X.N[i]? = some n) (hln : X.env.kindOf n = some .local) (hc : Names X x c) (tk : Takes X Wo)
    (hb : ∀ (W : WX) (pn : List (Addr × Obj)) (xe : Value → Shared → Prop), Takes (X.tr pn xe) W → PassesOwn (model X.prog X.w) X.A X.env xe → PSs (X.tr pn xe) body (tb W))
    (hsu : ∀ (a : Addr) (pn : List (Addr × Obj)), PSs (X.suite a pn) (b₀ :: suite) ts) :
    PS X (.Try body [.ExceptHandler (some (.Name x np)) (some n) (b₀ :: suite) pos'] [] [] pos) (fun D σ H => tb (wTrk X.K c i ts Wo D) D σ H) := by
  refine ⟨fun pins s σ H D I h => wpAny_Try_except ?_⟩
  have ok := I.ok
  refine wpAny_mono ((hb _ (X.pn ++ pins) _ (takes_trk ok hs hf hex hN hi hln hc tk hsu) PassesOwn.looking).run [] s σ H D (I.toTry _) h) (fun f s1 hsp => ?_) (fun e s1 he => he)
  cases f with
  | next => obtain ⟨σ', H', J', q⟩ := hsp; exact wpAny_execs_nil ⟨σ', H', J'.ofTry ok, q⟩
  | brk => obtain ⟨σ', H', J', q⟩ := hsp; exact ⟨σ', H', J'.ofTry ok, q⟩
  | cont => obtain ⟨σ', H', J', q⟩ := hsp; exact ⟨σ', H', J'.ofTry ok, q⟩
  | ret u => obtain ⟨v, σ', H', J', r, q⟩ := hsp; exact ⟨v, σ', H', J'.ofTry ok, r, q⟩
end
structure ExcF (B : Bx) (x : Str) (yes no : List Str) : Prop where
  mg : B.mg x = some (.ref (B.cl x))
  yes : ∀ C ∈ yes, PySem.W.exmOne B.K (.ref (B.cl C)) (.ref (B.cl x)) = some true
  no : ∀ C ∈ no, PySem.W.exmOne B.K (.ref (B.cl C)) (.ref (B.cl x)) = some false
def dTry (i : Nat) (yes no : List Str) (S Su : DTS) : DTS := fun DD ρ M => S { DD with ex := fun C ρ1 M1 => (C ∈ yes ∧ Su ⟨fun ρ2 => DD.nx (ρ2.set i .un), DD.rt, fun ρ2 => DD.bk (ρ2.set i .un), fun ρ2 => DD.ct (ρ2.set i .un), fun _ _ _ => False⟩ (ρ1.set i (.dat (.exc C))) M1) ∨ (C ∈ no ∧ DD.ex C ρ1 M1) } ρ M
section
variable {X : Cx} {wx : WX} {x n : Str} {i : Nat} {body suite : List Stmt} {b₀ : Stmt} {np pos pos' : Pos} {S Su : DTS}
theorem ds_try {yes no : List Str} (hN : X.N.Nodup) (tk : Takes X wx) (hx : ExcF (bx X) x yes no)
    (hb : ∀ (W : WX) (pn : List (Addr × Obj)) (xe : Value → Shared → Prop), Takes (X.tr pn xe) W → PassesOwn (model X.prog X.w) X.A X.env xe → DSs (X.tr pn xe) W body S)
    (hsu : ∀ (a : Addr) (pn : List (Addr × Obj)), DSs (X.suite a pn) (fun _ _ _ _ => False) (b₀ :: suite) Su)
    (hs : X.stack = X.env :: X.outer := by rfl) (hf : X.env.frame = some X.env.locals := by rfl) (hex : X.ex = [] := by rfl) (hi : X.N[i]? = some n := by rfl) (hln : X.env.kindOf n = some .local := by rfl) (hg : Gl X x := by rfl) (hd : (x == ("__debug__" : Str)) = false := by decide) :
    DS X wx (.Try body [.ExceptHandler (some (.Name x np)) (some n) (b₀ :: suite) pos'] [] [] pos) (dTry i yes no S Su) := by
  have hsu' : ∃ ts, (∀ a pn, PSs (X.suite a pn) (b₀ :: suite) ts) ∧ RfS (bx X) (fun _ _ _ _ => False) ts Su := by
    refine ⟨fun D σ H => ∀ a pn, (hsu a pn).choose D σ H, fun a pn => ⟨fun pins s σ H D I h => ?_⟩, fun W0 W m σ ρ M D DD R mk h k a pn => ?_⟩
    · exact (hsu a pn).choose_spec.1.run pins s σ H D I (h a pn)
    · exact (hsu a pn).choose_spec.2 W0 W m σ ρ M D DD R mk h k
  obtain ⟨ts, p2, r2⟩ := hsu'
  have hb' : ∃ tb : WX → TS, (∀ W pn xe, Takes (X.tr pn xe) W → PassesOwn (model X.prog X.w) X.A X.env xe → PSs (X.tr pn xe) body (tb W)) ∧ ∀ W, RfS (bx X) W (tb W) S := by
    refine ⟨fun W D σ H => ∀ pn xe (h1 : Takes (X.tr pn xe) W) (h2 : PassesOwn (model X.prog X.w) X.A X.env xe), (hb W pn xe h1 h2).choose D σ H, fun W pn xe h1 h2 => ⟨fun pins s σ H D I h => ?_⟩, fun W W0 W1 m σ ρ M D DD R mk h k pn xe h1 h2 => ?_⟩
    · exact (hb W pn xe h1 h2).choose_spec.1.run pins s σ H D I (h pn xe h1 h2)
    · exact (hb W pn xe h1 h2).choose_spec.2 W0 W1 m σ ρ M D DD R mk h k
  obtain ⟨tb, p1, r1⟩ := hb'
  refine ⟨_, ps_tryT hs hf hex hN hi hln ⟨hg, hd, .inl hx.mg⟩ tk p1 p2, fun W0 W m σ ρ M D DD R mk h k => ?_⟩
  refine r1 _ W0 W m σ ρ M D _ R mk h ⟨k.nx, k.rt, k.bk, k.ct, fun C W' m' σ' ρ' M' R' mk' q => ?_⟩
  rcases q with ⟨hy, q⟩ | ⟨hn, q⟩
  · refine ⟨true, _, rfl, rfl, hx.yes C hy, fun _ a ha => ?_, fun z => by cases z⟩
    have ha1 := (cat_new ha).1
    have R2 := (R'.mono (W'.le_new (o := .ext (ExcAt a ((bx X).cl C))) ha1)).set (i := i) (v := .ref a) (d := .exc C) (.exc (upd_same (H := W'.F)))
    have q2 := r2 W0 (W'.new a _) m' _ _ M' (endsGo i D) _ R2 (mk'.new ha) q ⟨fun W3 m3 σ3 ρ3 M3 R3 mk3 h3 => k.nx W3 m3 _ _ M3 R3.unset mk3 h3, k.rt, fun W3 m3 σ3 ρ3 M3 R3 mk3 h3 => k.bk W3 m3 _ _ M3 R3.unset mk3 h3, fun W3 m3 σ3 ρ3 M3 R3 mk3 h3 => k.ct W3 m3 _ _ M3 R3.unset mk3 h3, fun _ _ _ _ _ _ _ _ h3 => h3⟩
    exact cat_q (P := fun H => ts (endsGo i D) _ H) q2
  · exact ⟨false, _, rfl, rfl, hx.no C hn, (fun z => by cases z), fun _ => k.ex C W' m' σ' ρ' M' R' mk' q⟩
end
end Z
namespace Z
open PySem PySem.Spec PyProof.Rows L2
open Evl (Ex)
structure OwnC (K : PySem.W.Frag) (C : Addr) : Prop where
  cl : Cls K C
  ha : PySem.W.findIn K (.ref C) "__class__" = some (some (.builtin "object.__class__"))
  hn : PySem.W.specialIn K (.builtin "object.__class__") "__get__" = some (some (.builtin "getset_descriptor.__get__"))
  ht : PySem.W.takesIn K (.builtin "object.__class__") = some true
  hm : PySem.W.mroIn K C (.type "object") = some true
def KtX (K : PySem.W.Frag) (H : Hp) (x : V) (t : Value) : Prop := TyX K H x t ∨ ∃ a C, x = .ref a ∧ t = .ref C ∧ H a = some (.ext (ExcAt a C)) ∧ ExcC K C
def rIsZ (K : PySem.W.Frag) : List V → Hp → VK → Prop := fun xs H Q => ∃ (x c : V) (t : Value) (us : List Value) (b : Bool), xs = [x, c] ∧ KtX K H x t ∧ ((∃ u, ClsV c u ∧ us = [u]) ∨ ∃ tp cs, c = .ref tp ∧ SqT K H tp cs ∧ Paired ClsV cs us) ∧ PySem.W.kitAny K t us = some b ∧ Q (.bl b) H
theorem kitAny_one {K : PySem.W.Frag} {t u : Value} {b : Bool} (h : PySem.W.kitAny K t [u] = some b) : PySem.W.kitOne K t u = some b := by
  unfold PySem.W.kitAny at h
  split at h
  · rename_i e; rw [e]; exact h
  · rename_i e; rw [e]; exact h
  · cases h
section
variable {X : Cx}
theorem kt_of {pins : List (Addr × Obj)} {σ : L2.St} {H : Hp} {s : Shared} {x : V} {u t : Value} (I : L2.Inv X pins σ H s) (rx : RelV x u) (ty : KtX X.K H x t) : ∃ P : Heap → Prop, PySem.W.KitX X.K u t P ∧ P s.heap ∧ u ≠ .builtin "__main__.__loader__#opaque" := by
  rcases ty with ty | ⟨a, C, rfl, rfl, ha, c⟩
  · exact kit_of I rx ty
  · cases (show u = Value.ref a from rx)
    obtain ⟨⟨oe, vs, h1, h2, h3, h4⟩, _, _⟩ := (show ObjOk X.prog X.w H s.heap a (.ext (ExcAt a C)) from I.hok a _ ha)
    refine ⟨_, PySem.W.handS_kitx_exc (ox := oe) c.hg c.hk c.hs c.hd c.ha c.hn c.ht c.hm, ?_, fun z => nomatch z⟩
    obtain ⟨oc, od, oda, osl⟩ := oe
    dsimp only at h2 h3 h4
    subst h2 h3 h4
    exact ⟨h1, rfl, rfl, trivial⟩
theorem call_isZ : CallR X (.builtin "isinstance") (rIsZ X.K) := by
  intro pins s σ H xs us Q I r h
  obtain ⟨x, c, t, ws, b, rfl, ty, hc, e, q⟩ := h
  obtain ⟨u1, u2, rfl, r1, r2⟩ := vals2 r
  obtain ⟨P, Z, p, hx⟩ := kt_of I r1 ty
  rcases hc with ⟨u, k, rfl⟩ | ⟨tp, cs, rfl, hT, k⟩
  · have e2 := k.eq r2
    subst e2
    exact PySem.W.kia_one Z I.kIn p (kitAny_one e) hx fun tk => ⟨.bl b, H, I.tok tk, rfl, q⟩
  · cases (show u2 = Value.ref tp from r2)
    obtain ⟨its, rv, ⟨o, h1, h2, n, h3⟩, hz⟩ := I.tuple hT
    have e3 := ClsV.all k rv
    subst e3
    obtain ⟨oc, od, dt, sl⟩ := o
    simp only at h2 h3
    subst h2 h3
    exact PySem.W.kia_tup Z I.kIn p h1 e hx fun tk => ⟨.bl b, H, I.tok tk, rfl, q⟩
end
def clsV (B : Bx) : D → Value
  | .cls n => .ref (B.cl n)
  | .ty n => .type n
  | _ => .none
def isCls : D → Bool
  | .cls _ => true
  | .ty _ => true
  | _ => false
structure IsF (B : Bx) (cs : List D) (bs : List (String × Bool)) (exs objs : List (Str × Bool)) : Prop where
  c : ∀ c ∈ cs, isCls c = true
  b : ∀ p ∈ bs, PySem.W.kitAny B.K (.type p.1) (cs.map (clsV B)) = some p.2
  x : ∀ p ∈ exs, ExcC B.K (B.cl p.1) ∧ PySem.W.kitAny B.K (.ref (B.cl p.1)) (cs.map (clsV B)) = some p.2
  o : ∀ p ∈ objs, OwnC B.K (B.cl p.1) ∧ PySem.W.kitAny B.K (.ref (B.cl p.1)) (cs.map (clsV B)) = some p.2
def isT (bs : List (String × Bool)) (exs objs : List (Str × Bool)) : D → Option Bool
  | .exc n => exs.lookup n
  | .obj n _ => objs.lookup n
  | d => match tyS d with | some s => bs.lookup s | none => none
def oIsC (cs : List D) (bs : List (String × Bool)) (exs objs : List (Str × Bool)) (ds : List D) (Q : D → Prop) : Prop := match ds with
  | [d, c] => (c = .tup cs ∨ cs = [c]) ∧ ∃ b, isT bs exs objs d = some b ∧ Q (.bl b)
  | _ => False
theorem lookup_mem' {α β : Type} [BEq α] [LawfulBEq α] {a : α} {b : β} : ∀ {l : List (α × β)}, l.lookup a = some b → (a, b) ∈ l
  | [], h => by cases h
  | (x, y) :: r, h => by
    rw [List.lookup_cons] at h
    cases q : a == x with
    | true => rw [q] at h; cases h; rw [eq_of_beq q]; exact List.mem_cons_self
    | false => rw [q] at h; exact List.mem_cons_of_mem _ (lookup_mem' h)
theorem clsV_all {B : Bx} {F : Hp} : ∀ {vs : List V} {cs : List D}, RpAll B F vs cs → (∀ c ∈ cs, isCls c = true) → Paired ClsV vs (cs.map (clsV B))
  | _, _, .nil, _ => .nil
  | _, _, .cons r t, h => .cons (by
      have hc := h _ List.mem_cons_self
      cases r <;> first | cases hc | skip
      · exact .ty _
      · exact .own _) (clsV_all t fun c hc => h c (List.mem_cons_of_mem _ hc))
theorem kt_isT {B : Bx} {W : Wd} {m : Hp} {v : V} {d : D} {cs : List D} {bs : List (String × Bool)} {exs objs : List (Str × Bool)} {b : Bool} (hf : IsF B cs bs exs objs) (h : RpR B W.F (cat W.H m) v d) (e : isT bs exs objs d = some b) :
    ∃ t, KtX B.K (cat W.H m) v t ∧ PySem.W.kitAny B.K t (cs.map (clsV B)) = some b := by
  have ok := W.ok.trans (cat_ex W.H m)
  have base : ∀ s, tyS d = some s → bs.lookup s = some b → ∃ t, KtX B.K (cat W.H m) v t ∧ PySem.W.kitAny B.K t (cs.map (clsV B)) = some b := fun s z y => ⟨.type s, .inl (tyX_of ok h z), hf.b _ (lookup_mem' y)⟩
  cases d with
  | exc n =>
    cases h with
    | exc h1 =>
      obtain ⟨c1, c2⟩ := hf.x _ (lookup_mem' (show exs.lookup n = some b from e))
      exact ⟨_, .inr ⟨_, _, rfl, rfl, ok _ _ h1, c1⟩, c2⟩
  | obj n fs =>
    obtain ⟨a, dx, fv, rfl, h1, h2⟩ := h
    obtain ⟨c1, c2⟩ := hf.o _ (lookup_mem' (show objs.lookup n = some b from e))
    exact ⟨_, .inl (.base (.ins h1 c1.cl c1.ha c1.hn c1.ht c1.hm)), c2⟩
  | non => exact base _ rfl e
  | bl _ => exact base _ rfl e
  | int _ => exact base _ rfl e
  | str _ => exact base _ rfl e
  | lst _ => exact base _ rfl e
  | tup _ => exact base _ rfl e
  | _ => cases e
theorem rf_isC {B : Bx} {cs : List D} {bs : List (String × Bool)} {exs objs : List (Str × Bool)} (hf : IsF B cs bs exs objs) : RfC B (rIsZ B.K) (oIsC cs bs exs objs) := by
  intro W m M vs ds Q Qd mk rs h k
  have ok := W.ok.trans (cat_ex W.H m)
  unfold oIsC at h
  split at h
  · rename_i d c
    obtain ⟨hc, b, e, q⟩ := h
    cases rs with
    | cons r1 t =>
      cases t with
      | cons r2 t =>
        cases t
        obtain ⟨t, h1, h2⟩ := kt_isT hf r1 e
        refine ⟨_, _, t, cs.map (clsV B), b, rfl, h1, ?_, h2, k _ _ W q (Wd.le.refl W) mk (.bl b)⟩
        rcases hc with rfl | rfl
        · cases r2 with
          | tup s1 s2 => exact .inr ⟨_, _, rfl, Evl.ex_t ok s1, clsV_all s2 hf.c⟩
        · refine .inl ?_
          have hc := hf.c _ List.mem_cons_self
          cases c <;> first | cases hc | skip
          · cases r2; exact ⟨_, .ty _, rfl⟩
          · cases r2; exact ⟨_, .own _, rfl⟩
  · exact h.elim
def FldF (B : Bx) (f : Str) (cs : List Str) : Prop := ∀ n ∈ cs, Cls B.K (B.cl n) ∧ NoAttr B.K (B.cl n) f
def fldD (f : Str) (cs : List Str) (d : D) (K : D → Prop) : Prop := match d with
  | .obj n fs => n ∈ cs ∧ ∃ x, fs.lookup f = some x ∧ K x
  | _ => False
def dFld (f : Str) (cs : List Str) (T : DTE) : DTE := fun ρ M Q E => T ρ M (fun d M' => fldD f cs (drf M' d) fun x => Q x M') E
section
variable {X : Cx} {wx : WX} {e o : Expr} {es : List Expr} {T : DTE} {pos pos' p apos : Pos} {f x : Str} {cs : List Str}
theorem de_fld (hf : FldF (bx X) f cs) (he : DR X wx e T) (hb : attributeBase e f X.env (eval e X.env) = eval e X.env := by rfl) : DE X wx (.Attribute e f pos) (dFld f cs T) := by
  obtain ⟨t, p, r⟩ := he
  refine ⟨_, pe_fld p hb, fun W0 W m σ ρ M Q Qd Ed R k h1 h2 h3 => r W0 W m σ ρ M _ _ Ed R k h1 (fun d v W' m' M' q le k' hv => ?_) h3⟩
  have hv := hv.drf k'
  cases z : Z.drf M' d with
  | obj n fs =>
    rw [z] at hv q
    obtain ⟨a, dx, fv, rfl, h4, h5⟩ := hv
    obtain ⟨hn, y, e1, q⟩ := q
    obtain ⟨u, e2, r2⟩ := h5.lookup e1
    obtain ⟨c1, c2⟩ := hf n hn
    exact ⟨a, _, dx, fv, u, rfl, h4, c1, c2, e2, h2 y u W' m' M' q le k' r2⟩
  | _ => rw [z] at q; exact q.elim
def putD (f : Str) (d : D) : List (Str × D) → List (Str × D)
  | [] => [(f, d)]
  | (g, x) :: r => if g = f then (g, d) :: r else (g, x) :: putD f d r
theorem RpF.put {B : Bx} {F : Hp} {f : Str} {v : V} {d : D} (r : Rp B F v d) : ∀ {fv : List (Str × V)} {fs : List (Str × D)}, RpF B F fv fs → RpF B F (putF f v fv) (putD f d fs)
  | _, _, .nil => .cons r .nil
  | _, _, .cons (f := g) q t => by
    unfold putF putD
    split
    · exact .cons r t
    · exact .cons q (RpF.put r t)
def onIns (M : Mu) (e : Ent) (cs : List Str) (K : Addr → Str → List (Str × D) → Prop) : Prop := match e with
  | .dat (.ref a) => (match M a with | some (.ins n fs) => n ∈ cs ∧ fs.length < 900 ∧ K a n fs | _ => False)
  | _ => False
theorem onIns_of {M : Mu} {e : Ent} {cs : List Str} {K : Addr → Str → List (Str × D) → Prop} (h : onIns M e cs K) : ∃ a n fs, e = .dat (.ref a) ∧ M a = some (.ins n fs) ∧ n ∈ cs ∧ fs.length < 900 ∧ K a n fs := by
  unfold onIns at h
  split at h
  · split at h
    · rename_i z; exact ⟨_, _, _, rfl, z, h⟩
    · exact h.elim
  · exact h.elim
def dSetF (i : Nat) (f : Str) (cs : List Str) (T : DTE) : DTS := fun DD ρ M => T ρ M (fun d M' => onIns M' (ga ρ i) cs fun a n fs => DD.nx ρ (updM M' a (.ins n (putD f d fs)))) fun C => DD.ex C ρ
theorem ds_setF {i : Nat} (hf : FldF (bx X) f cs) (pv : PE X (.Name x p) (tVar i)) (he : DE X wx e T) (hs : swapsWith e (some (.Attribute (.Name x p) f pos')) pos.line X.env = pure false := by rfl) : DS X wx (.Assign [.Attribute (.Name x p) f pos'] e pos) (dSetF i f cs T) := by
  obtain ⟨t, pe, r⟩ := he
  refine ⟨_, ps_fld pv pe hs, fun W0 W m σ ρ M D DD R mk h k => r W0 W m σ ρ M _ _ _ R mk h (fun d v W' m' M' q le mk' hv => ?_) fun C W' m' M' q le mk' => k.ex C W' m' σ ρ M' (R.mono le) mk' q⟩
  obtain ⟨a, n, fs, e1, e2, hn, hl, q⟩ := onIns_of q
  obtain ⟨u, s1, ru⟩ := (R.mono le).dat e1
  cases ru
  have o1 := mk'.ok a
  rw [e2] at o1
  obtain ⟨dx, fv, o2, o3⟩ := o1
  have hH := mk'.hn e2
  obtain ⟨c1, c2⟩ := hf n hn
  refine ⟨_, s1, a, _, dx, fv, rfl, (cat_none hH).trans o2, c1, c2, by rw [o3.length]; omega, ?_⟩
  exact cat_qm (P := D.nx σ) hH (k.nx W' _ σ ρ _ (R.mono le) (mk'.put (ob := .ins n (putD f d fs)) hH ⟨dx, _, rfl, o3.put hv⟩) q)
def delM (M : Mu) (a : Addr) : Mu := fun b => if b = a then none else M b
theorem del_upd {M : Mu} {a : Addr} {o : Ob} (h : M a = none) : delM (updM M a o) a = M := by
  funext b
  unfold delM updM
  by_cases z : b = a
  · subst z; rw [if_pos rfl, h]
  · rw [if_neg z, if_neg z]
theorem MOk.del {B : Bx} {W : Wd} {M : Mu} {m : Hp} (h : MOk B W M m) (a : Addr) : MOk B W (delM M a) m := h.weak fun b ob e => by
  unfold delM at e
  split at e
  · cases e
  · exact e
theorem MOk.freeze {B : Bx} {W : Wd} {M : Mu} {m : Hp} {a : Addr} {n : Str} {fs : List (Str × D)} (h : MOk B W M m) (e : M a = some (.ins n fs)) : ∃ W' m', cat W'.H m' = cat W.H m ∧ W.le W' ∧ MOk B W' (delM M a) m' ∧ Rp B W'.F (.ref a) (.obj n fs) := by
  have hH := h.hn e
  have o1 := h.ok a
  rw [e] at o1
  obtain ⟨dx, fv, o2, o3⟩ := o1
  refine ⟨W.new a (.ins (B.cl n) dx fv), fun b => if b = a then none else m b, ?_, W.le_new hH, ⟨fun b hb => ?_, fun b => ?_⟩, .obj (upd_same (H := W.F)) (o3.mono (W.le_new hH).f)⟩
  · funext b
    by_cases z : b = a
    · subst z
      rw [cat_some (show (W.new b (.ins (B.cl n) dx fv)).H b = _ from upd_same), cat_none hH, o2]
    · unfold cat
      dsimp only
      rw [show (W.new a (.ins (B.cl n) dx fv)).H b = W.H b from upd_ne z, if_neg z]
  · by_cases z : b = a
    · rw [if_pos z]
    · rw [if_neg z]
      refine h.dj b ?_
      rw [← show (W.new a (.ins (B.cl n) dx fv)).H b = W.H b from upd_ne z]; exact hb
  · unfold delM
    by_cases z : b = a
    · rw [if_pos z, if_pos z]; trivial
    · rw [if_neg z, if_neg z]; exact (h.ok b).mono (W.le_new hH).f
structure MkF (B : Bx) (base : Heap) (k : Nat) (n : Str) (ms : List Bool) (dv : List D) (sp : SpM) : Prop where
  ex : ∃ f fd ps dvs ds, FnB B base k f fd ps ms sp ∧ B.mg n = some (.ref (B.cl n)) ∧ Mk B.K (B.cl n) f ∧ Binds B.K fd ps ds ∧ Vals dvs ds ∧ ∀ F, RpAll B F dvs dv
def tMakeS (C : Addr) (sp : Sp) (dvs : List V) (E : L2.St → XK) (t : TA) : TE := fun σ H Q => t σ H fun vs H1 => ∀ x dx, H1 x = none → H1 dx = none → dx ≠ x → sp (.ref x :: (vs ++ dvs)) (upd (upd H1 dx (.own x)) x (.ins C dx [])) (fun v H2 => v = .non ∧ Q (.ref x) H2) (E σ)
theorem run_makeS {CX : CXT} {k : Nat} {g C : Addr} {fd : FuncData} {ps : List Str} {sp : Sp} {dvs : List V} {ds : List Value} {E : XK} {pins : List (Addr × Obj)} {σ : L2.St} {H : Hp} {s : Shared} {Q : VK} {us : List Value} {vs : List V}
    (M : Mk X.K C g) (F : FnOk X.prog X.w X.K X.mg X.base CX k g fd ps sp) (hr : Room (k + 1) X.A) (hb : Binds X.K fd ps ds) (hd : Vals dvs ds) (hx : PassesAt CX X σ E) (I : L2.Inv X pins σ H s) (r : Vals vs us)
    (h : ∀ x dx, H x = none → H dx = none → dx ≠ x → sp (.ref x :: (vs ++ dvs)) (upd (upd H dx (.own x)) x (.ins C dx [])) (fun v H2 => v = .non ∧ Q (.ref x) H2) E) :
    wpAny (model X.prog X.w) X.A (call (.ref C) us) (EP X pins σ Q) X.xe s := by
  have hq := h _ _ (I.hok.fresh (Nat.le_succ s.heap.objs.size)) (I.hok.fresh (Nat.le_refl s.heap.objs.size)) (Nat.ne_of_lt (Nat.lt_succ_self _))
  have J := Inv.made (C := C) I
  have r2 : Vals (V.ref (s.heap.objs.size + 1) :: (vs ++ dvs)) (.ref (s.heap.objs.size + 1) :: (us ++ ds)) := .cons rfl (r.append hd)
  have hl : (Value.ref (s.heap.objs.size + 1) :: us ++ ds).length = ps.length := (r2.length.symm.trans (F.len _ _ _ _ hq))
  refine wpAny_call (make_map I.kIn M.makes M.init (beq_iff_eq.mp M.fn) (codeAny_mono (F.run _ X.stack _ _ ⟨.ref (s.heap.objs.size + 1) :: us, []⟩ _ _ _ E (hr.make C us []) (J.env0.make C us []) (hb _ (.ref (s.heap.objs.size + 1) :: us) J.kIn hl) r2 hq) fun r s' z => ?_))
  cases r with
  | error e => exact hx pins _ _ e s' J z
  | ok fl =>
    cases fl with
    | ret u => obtain ⟨v, H', J3, rv, rfl, q3⟩ := J.after z; exact ⟨rv, ⟨.ref (s.heap.objs.size + 1), H', J3, rfl, q3⟩⟩
    | next => exact False.elim z
    | brk => exact False.elim z
    | cont => exact False.elim z
theorem pe_makeS {CX : CXT} {k : Nat} {g C : Addr} {fd : FuncData} {ps : List Str} {sp : Sp} {dvs : List V} {ds : List Value} {E : L2.St → XK} {t : TA} (M : Mk X.K C g) (F : FnOk X.prog X.w X.K X.mg X.base CX k g fd ps sp) (hr : Room (k + 1) X.A) (hg : Gl X x) (hm : X.mg x = some (.ref C))
    (hb : Binds X.K fd ps ds) (hd : Vals dvs ds) (hx : ∀ σ, PassesAt CX X σ (E σ)) (ha : PA X (e :: es) t) (hdb : (x == ("__debug__" : Str)) = false) (he : starEach (e :: es) X.env = (false, eval e X.env) :: starEach es X.env) (hpl : (backTo pos (starEach es X.env)).any (·.1) = false) :
    PE X (.Call (.Name x p) (e :: es) [] pos) (tMakeS C sp dvs E t) := by
  refine ⟨fun pins s σ H Q I h => wpAny_Call_Name_kw (ld_glob I hg hm ?_ hdb)⟩
  exact PySem.W.callWith_K (h₀ := X.base) I.ok.mod.kin M.kp (thn (ha.run pos pins s σ H _ I h) fun us s1 ⟨vs, H1, J, r, q⟩ => ⟨J.kIn, run_makeS M F hr hb hd (hx σ) J r q⟩) he hpl
def dMake (n : Str) (dv : List D) (sp : SpM) (R : DTA) : DTE := fun ρ M Q E => R ρ M (fun ds M1 => ∀ x, M1 x = none → sp (.ref x :: (ds ++ dv)) (updM M1 x (.ins n [])) (fun d M2 => d = .non ∧ ∃ fs, M2 x = some (.ins n fs) ∧ Q (.obj n fs) (delM M2 x)) (fun C M2 => E C (delM M2 x))) E
theorem ArgsOk.app {B : Bx} {W : Wd} {ms ns : List Bool} {vs : List V} {ds : List D} {us : List V} {es : List D} (hn : ns.length = us.length) (h : ArgsOk B W ms vs ds) (g : ∀ F, RpAll B F us es) : ArgsOk B W (ms ++ ns) (vs ++ us) (ds ++ es) := by
  induction h with
  | nil =>
    have : ∀ {ns : List Bool} {us : List V} {es : List D}, ns.length = us.length → RpAll B W.F us es → ArgsOk B W ns us es := fun {ns us es} hn q => by
      induction us generalizing es ns with
      | nil =>
        cases q
        cases ns with
        | nil => exact .nil
        | cons _ _ => cases hn
      | cons v vs ih =>
        cases ns with
        | nil => cases hn
        | cons b ns =>
          cases q with
          | cons r t =>
            cases b with
            | false => exact .dat r (ih (by simpa using hn) t)
            | true => exact .bor (r.r W.ok) (ih (by simpa using hn) t)
    exact this hn (g _)
  | dat r _ ih => exact .dat r ih
  | bor r _ ih => exact .bor r ih
theorem de_make {j k : Nat} {ms ns : List Bool} {dv : List D} {sp : SpM} {R : DTA} (F : MkF (bx X) X.base k x (false :: (ms ++ ns)) dv sp) (hr : Room j X.A) (tk : Takes X wx) (hk : k + 1 ≤ j) (ha : DM X wx ms (e :: es) R) (hg : Gl X x := by rfl) (hdb : (x == ("__debug__" : Str)) = false := by decide)
    (he : starEach (e :: es) X.env = (false, eval e X.env) :: starEach es X.env := by rfl) (hpl : (backTo pos (starEach es X.env)).any (·.1) = false := by rfl) (hnl : ns.length = dv.length := by rfl) : DE X wx (.Call (.Name x p) (e :: es) [] pos) (dMake x dv sp R) := by
  obtain ⟨f, fd, ps, dvs, ds, G, h1, h2, h3, h4, h5⟩ := F.ex
  obtain ⟨t, pa, ra⟩ := ha
  refine ⟨_, pe_makeS (E := WE wx) h2 G (hr.mono hk) hg h1 h3 h4 (fun σ => passAt tk σ) pa hdb he hpl, fun W0 W m σ ρ M Q Qd Ed Re k h1 h2 h3 => ?_⟩
  refine ra W0 W m σ ρ M _ _ Ed Re k h1 (fun ds vs W' m' M' q le k' hv => fun y dx ny ndx ne => ?_) h3
  obtain ⟨ny1, ny2⟩ := cat_new ny
  obtain ⟨nd1, nd2⟩ := cat_new ndx
  have hMy : M' y = none := by
    cases z : M' y with
    | none => rfl
    | some ob => have o1 := k'.ok y; rw [z] at o1; exact absurd ny2 o1.ne
  have k1 := k'.lay (o := .own y) ndx
  have hyW : (W'.lay dx (.own y) (W'.fnone nd1)).H y = none := (upd_ne (Ne.symm ne)).trans ny1
  have k2 := k1.put (a := y) (ob := .ins x []) (o := .ins ((bx X).cl x) dx []) hyW ⟨dx, [], rfl, .nil⟩
  have hA := ArgsOk.app (ns := ns) (by rw [hnl, (h5 W.F).length]) hv h5
  refine ⟨W'.lay dx (.own y) (W'.fnone nd1), upd m' y (.ins ((bx X).cl x) dx []), updM M' y (.ins x []), .ref y :: (ds ++ dv), _, _, ?_, k2, .dat (.ref y) (hA.le (W'.le_lay nd1)), q y hMy, fun d v W2 m2 M2 q2 le2 mk2 hv2 => ?_, fun C W2 m2 M2 q2 le2 mk2 => ?_⟩
  · rw [← cat_updm hyW]
    exact congrArg (fun z => upd z y _) cat_upd.symm
  · obtain ⟨rfl, fs, e2, q2⟩ := q2
    cases hv2
    obtain ⟨W3, m3, e3, le3, mk3, r3⟩ := mk2.freeze e2
    refine ⟨rfl, ?_⟩
    have := h2 _ (.ref y) W3 m3 _ q2 (((le.trans (W'.le_lay nd1)).trans le2).trans le3) mk3 r3
    rw [e3] at this
    exact this
  · exact h3 C W2 m2 _ q2 ((le.trans (W'.le_lay nd1)).trans le2) (mk2.del y)
def dMake0 (n : Str) : DTE := fun _ M Q _ => Q (.obj n []) M
structure MtF (B : Bx) (base : Heap) (k : Nat) (n m : Str) (ms : List Bool) (sp : SpM) : Prop where
  ex : ∃ f fd ps, FnB B base k f fd ps ms sp ∧ Cls B.K (B.cl n) ∧ Meth B.K (B.cl n) m f ∧ Binds B.K fd ps []
theorem MtF.up {B : Bx} {base : Heap} {k j : Nat} {n m : Str} {ms : List Bool} {sp : SpM} (h : MtF B base k n m ms sp) (hk : k ≤ j) : MtF B base j n m ms sp := by
  obtain ⟨f, fd, ps, F, h1, h2, h3⟩ := h.ex
  exact ⟨f, fd, ps, F.mono hk, h1, h2, h3⟩
theorem MkF.up {B : Bx} {base : Heap} {k j : Nat} {n : Str} {ms : List Bool} {dv : List D} {sp : SpM} (h : MkF B base k n ms dv sp) (hk : k ≤ j) : MkF B base j n ms dv sp := by
  obtain ⟨f, fd, ps, dvs, ds, F, r⟩ := h.ex
  exact ⟨f, fd, ps, dvs, ds, F.mono hk, r⟩
def methD (m : Str) (tb : List (Str × SpM)) (d : D) (K : SpM → Prop) : Prop := match d with
  | .obj n fs => fs.lookup m = none ∧ ∃ sp, tb.lookup n = some sp ∧ K sp
  | _ => False
def dMeth (m : Str) (tb : List (Str × SpM)) (T : DTE) (R : DTA) : DTE := fun ρ M Q E => T ρ M (fun d M1 => methD m tb (drf M1 d) fun sp => R ρ M1 (fun ds M2 => sp (d :: ds) M2 Q E) E) E
end
end Z
namespace Z
open PySem PySem.Spec PyProof.Rows L2
abbrev Fz := PySem.W.Frag → Bool
def obsK (fa : List He.Fa) (fn : List He.DefD) (ez : List Fz) (K : PySem.W.Frag) : He.AlD × Bool := (He.obsD fa fn K, ez.all fun e => e K)
def memN (a : Nat) : List Nat → Bool
  | [] => false
  | b :: r => match Nat.beq a b with
    | true => true
    | false => memN a r
def putsN : List Nat → List Nat → List Nat → List Nat × List Nat
  | [], seen, nw => (seen, nw)
  | a :: as, seen, nw => match memN a seen with
    | true => putsN as seen nw
    | false => putsN as (a :: seen) (a :: nw)
def asF (g : Addr → Option Obj) : Nat → List Addr → List Addr → List Addr
  | 0, seen, _ => seen.reverse
  | n + 1, seen, front => match putsN (front.flatMap fun a => match g a with
    | some o => He.refsD o
    | none => []) seen [] with
    | (seen, nw) => asF g n seen nw
def obsZ (n : Nat) (fa : List He.Fa) (fn : List He.DefD) (ez : List Fz) (g : Addr → Option Obj) : He.AlD × Bool := obsK fa fn ez (He.frG g (asF g n [mainGlobals] [mainGlobals]))
structure SaysZ (fa : List He.Fa) (fn : List He.DefD) (ez : List Fz) (K : PySem.W.Frag) : Prop where
  d : He.SaysD fa fn K
  z : (ez.all fun e => e K) = true
def hookZ (n : Nat) (fa : List He.Fa) (fn : List He.DefD) (ez : List Fz) : PySem.W.Hook where
  α := He.AlD × Bool
  obs := fun s => obsZ n fa fn ez s.heap.get?
  val := fun _ => (He.valD fn, true)
  says := fun _ h => ∃ K : PySem.W.Frag, K.In h ∧ SaysZ fa fn ez K
  of := fun _ _ e => ⟨_, He.frG_in, congrArg Prod.fst e, congrArg Prod.snd e⟩
  keeps := fun _ _ _ ⟨K, hK, c⟩ k => ⟨K, PySem.W.Frag.In.keeps hK k, c⟩
theorem obsZ_eq {n : Nat} {fa : List He.Fa} {fn : List He.DefD} {ez : List Fz} {g : Addr → Option Obj} {s : Shared} (h : ∀ a, g a = s.heap.get? a) : obsZ n fa fn ez g = (hookZ n fa fn ez).obs s := by
  have e : g = s.heap.get? := funext h
  rw [e] <;> rfl
theorem SaysZ.e {fa : List He.Fa} {fn : List He.DefD} {ez : List Fz} {K : PySem.W.Frag} (c : SaysZ fa fn ez K) (i : Nat) {f : Fz} (h : ez[i]? = some f := by rfl) : f K = true := List.all_eq_true.mp c.z f (List.mem_of_getElem? h)
def gB (n : Str) : Fz := fun K => (He.Fa.glo n).ok K
section
variable {P : Program} {w : World} {K : PySem.W.Frag} {h : Heap} {mg : Str → Option Value}
theorem gB_mg (KX : K.In h) (G : h.Ns mainGlobals mg) {n : Str} (c : gB n K = true) : (⟨P, w, K, mg⟩ : Bx).mg n = some (.ref ((⟨P, w, K, mg⟩ : Bx).cl n)) := by
  have e : mg n = some (.ref (He.ga K n)) := He.glo_ok KX G c
  have e2 : (⟨P, w, K, mg⟩ : Bx).cl n = He.ga K n := cl_of e
  rw [e2]; exact e
theorem gB_cl (KX : K.In h) (G : h.Ns mainGlobals mg) {n : Str} (c : gB n K = true) : (⟨P, w, K, mg⟩ : Bx).cl n = He.ga K n := cl_of (He.glo_ok KX G c)
def fldB (f : Str) (cs : List Str) : Fz := fun K => cs.all fun n => gB n K && ((He.Fa.cls n).ok K && (He.Fa.noat n f).ok K)
theorem fldB_ok (KX : K.In h) (G : h.Ns mainGlobals mg) {f : Str} {cs : List Str} (c : fldB f cs K = true) : FldF ⟨P, w, K, mg⟩ f cs := fun n hn => by
  obtain ⟨c1, c2⟩ := He.ba (List.all_eq_true.mp c n hn)
  obtain ⟨c2, c3⟩ := He.ba c2
  rw [gB_cl KX G c1]
  exact ⟨He.cls_ok c2, He.noat_ok c3⟩
def xcB (n : Str) : Fz := fun K => gB n K && (He.Fa.exc n).ok K
theorem xcB_ok (KX : K.In h) (G : h.Ns mainGlobals mg) {n : Str} (c : xcB n K = true) : XcF ⟨P, w, K, mg⟩ n := by
  obtain ⟨c1, c2⟩ := He.ba c
  exact XcF.of (He.glo_ok KX G c1) (He.exc_ok c2)
def excB (x : Str) (yes no : List Str) : Fz := fun K => gB x K && ((yes.all fun C => gB C K && (He.Fa.exm C x true).ok K) && no.all fun C => gB C K && (He.Fa.exm C x false).ok K)
theorem excB_ok (KX : K.In h) (G : h.Ns mainGlobals mg) {x : Str} {yes no : List Str} (c : excB x yes no K = true) : ExcF ⟨P, w, K, mg⟩ x yes no := by
  obtain ⟨c1, c2⟩ := He.ba c
  obtain ⟨c2, c3⟩ := He.ba c2
  refine ⟨gB_mg KX G c1, fun C hC => ?_, fun C hC => ?_⟩
  · obtain ⟨d1, d2⟩ := He.ba (List.all_eq_true.mp c2 C hC)
    rw [gB_cl KX G d1, gB_cl KX G c1]; exact He.exm_ok d2
  · obtain ⟨d1, d2⟩ := He.ba (List.all_eq_true.mp c3 C hC)
    rw [gB_cl KX G d1, gB_cl KX G c1]; exact He.exm_ok d2
def excCB (C : Addr) : Fz := fun K => He.eqO (PySem.W.findIn K (.ref C) "__getattribute__") (some (some (.builtin "BaseException.__getattribute__"))) && (He.eqO (PySem.W.findIn K (.ref C) "__getattr__") (some none) &&
  (decide (PySem.W.subIn K (.ref C) (.type "BaseException") = some true) && (PySem.W.hasDictIn K C && (He.eqO (PySem.W.findIn K (.ref C) "__class__") (some (some (.builtin "object.__class__"))) &&
  (He.eqO (PySem.W.specialIn K (.builtin "object.__class__") "__get__") (some (some (.builtin "getset_descriptor.__get__"))) && (decide (PySem.W.takesIn K (.builtin "object.__class__") = some true) && decide (PySem.W.mroIn K C (.type "object") = some true)))))))
theorem excCB_ok {C : Addr} (c : excCB C K = true) : ExcC K C := by
  obtain ⟨c1, c⟩ := He.ba c
  obtain ⟨c2, c⟩ := He.ba c
  obtain ⟨c3, c⟩ := He.ba c
  obtain ⟨c4, c⟩ := He.ba c
  obtain ⟨c5, c⟩ := He.ba c
  obtain ⟨c6, c⟩ := He.ba c
  obtain ⟨c7, c8⟩ := He.ba c
  exact ⟨He.eqO_ok c1, He.eqO_ok c2, of_decide_eq_true c3, c4, He.eqO_ok c5, He.eqO_ok c6, of_decide_eq_true c7, of_decide_eq_true c8⟩
def ownCB (n : Str) : Fz := fun K => (He.Fa.cls n).ok K && (He.eqO (PySem.W.findIn K (.ref (He.ga K n)) "__class__") (some (some (.builtin "object.__class__"))) &&
  (He.eqO (PySem.W.specialIn K (.builtin "object.__class__") "__get__") (some (some (.builtin "getset_descriptor.__get__"))) && (decide (PySem.W.takesIn K (.builtin "object.__class__") = some true) && decide (PySem.W.mroIn K (He.ga K n) (.type "object") = some true))))
theorem ownCB_ok {n : Str} (c : ownCB n K = true) : OwnC K (He.ga K n) := by
  obtain ⟨c1, c⟩ := He.ba c
  obtain ⟨c5, c⟩ := He.ba c
  obtain ⟨c6, c⟩ := He.ba c
  obtain ⟨c7, c8⟩ := He.ba c
  exact ⟨He.cls_ok c1, He.eqO_ok c5, He.eqO_ok c6, of_decide_eq_true c7, of_decide_eq_true c8⟩
def clK (K : PySem.W.Frag) : D → Value
  | .cls n => .ref (He.ga K n)
  | .ty n => .type n
  | _ => .none
def clOk (K : PySem.W.Frag) : D → Bool
  | .cls n => gB n K
  | .ty _ => true
  | _ => false
theorem clK_eq (KX : K.In h) (G : h.Ns mainGlobals mg) : ∀ {cs : List D}, (∀ c ∈ cs, clOk K c = true) → cs.map (clsV ⟨P, w, K, mg⟩) = cs.map (clK K)
  | [], _ => rfl
  | c :: cs, hc => by
    rw [List.map_cons, List.map_cons, clK_eq KX G fun d hd => hc d (List.mem_cons_of_mem _ hd)]
    have q := hc c List.mem_cons_self
    cases c <;> first | cases q | skip
    · rfl
    · show Value.ref ((⟨P, w, K, mg⟩ : Bx).cl _) :: _ = _
      rw [gB_cl KX G q]; rfl
def isB (cs : List D) (bs : List (String × Bool)) (exs objs : List (Str × Bool)) : Fz := fun K => (cs.all fun c => clOk K c) && ((bs.all fun p => decide (PySem.W.kitAny K (.type p.1) (cs.map (clK K)) = some p.2)) &&
  ((exs.all fun p => gB p.1 K && (excCB (He.ga K p.1) K && decide (PySem.W.kitAny K (.ref (He.ga K p.1)) (cs.map (clK K)) = some p.2))) && objs.all fun p => gB p.1 K && (ownCB p.1 K && decide (PySem.W.kitAny K (.ref (He.ga K p.1)) (cs.map (clK K)) = some p.2))))
theorem isB_ok (KX : K.In h) (G : h.Ns mainGlobals mg) {cs : List D} {bs : List (String × Bool)} {exs objs : List (Str × Bool)} (c : isB cs bs exs objs K = true) : IsF ⟨P, w, K, mg⟩ cs bs exs objs := by
  obtain ⟨c1, c⟩ := He.ba c
  obtain ⟨c2, c⟩ := He.ba c
  obtain ⟨c3, c4⟩ := He.ba c
  have hc : ∀ d ∈ cs, clOk K d = true := List.all_eq_true.mp c1
  have e := clK_eq (P := P) (w := w) KX G hc
  refine ⟨fun d hd => ?_, fun p hp => ?_, fun p hp => ?_, fun p hp => ?_⟩
  · have q := hc d hd
    cases d <;> first | rfl | cases q
  · rw [e]; exact of_decide_eq_true (List.all_eq_true.mp c2 p hp)
  · obtain ⟨d1, d2⟩ := He.ba (List.all_eq_true.mp c3 p hp)
    obtain ⟨d2, d3⟩ := He.ba d2
    rw [gB_cl KX G d1, e]
    exact ⟨excCB_ok d2, of_decide_eq_true d3⟩
  · obtain ⟨d1, d2⟩ := He.ba (List.all_eq_true.mp c4 p hp)
    obtain ⟨d2, d3⟩ := He.ba d2
    rw [gB_cl KX G d1, e]
    exact ⟨ownCB_ok d2, of_decide_eq_true d3⟩
def mtB (n m c : Str) : Fz := fun K => gB n K && ((He.Fa.cls n).ok K && ((He.Fa.meth n m).ok K && decide (He.ma K (He.ga K n) m = He.ma K (He.ga K c) m)))
theorem mtB_ok (KX : K.In h) (G : h.Ns mainGlobals mg) {n m c : Str} (q : mtB n m c K = true) : Cls K ((⟨P, w, K, mg⟩ : Bx).cl n) ∧ Meth K ((⟨P, w, K, mg⟩ : Bx).cl n) m (He.ma K (He.ga K c) m) := by
  obtain ⟨c1, q⟩ := He.ba q
  obtain ⟨c2, q⟩ := He.ba q
  obtain ⟨c3, c4⟩ := He.ba q
  rw [gB_cl KX G c1, ← of_decide_eq_true c4]
  exact ⟨He.cls_ok c2, He.meth_ok c3⟩
def mkB (n : Str) : Fz := fun K => gB n K && (He.Fa.mkr n).ok K
theorem mkB_ok (KX : K.In h) (G : h.Ns mainGlobals mg) {n : Str} (q : mkB n K = true) : Mk K ((⟨P, w, K, mg⟩ : Bx).cl n) (He.ma K (He.ga K n) "__init__") := by
  obtain ⟨c1, c2⟩ := He.ba q
  rw [gB_cl KX G c1]
  exact He.mkr_ok c2
theorem MtF.mk' {base : Heap} {k : Nat} {n m c : Str} {fd : FuncData} {ps : List Str} {ms : List Bool} {sp : SpM} (KX : K.In h) (G : h.Ns mainGlobals mg) (q : mtB n m c K = true) (hb : Binds K fd ps []) (F : FnB ⟨P, w, K, mg⟩ base k (He.ma K (He.ga K c) m) fd ps ms sp) : MtF ⟨P, w, K, mg⟩ base k n m ms sp :=
  have e := mtB_ok (P := P) (w := w) KX G q
  ⟨_, fd, ps, F, e.1, e.2, hb⟩
theorem MkF.mk' {base : Heap} {k : Nat} {n : Str} {fd : FuncData} {ps : List Str} {ms : List Bool} {sp : SpM} {dvs : List V} {dv : List D} (KX : K.In h) (G : h.Ns mainGlobals mg) (q : mkB n K = true) (hb : ∃ ds, Vals dvs ds ∧ Binds K fd ps ds) (hd : ∀ F, RpAll ⟨P, w, K, mg⟩ F dvs dv)
    (F : FnB ⟨P, w, K, mg⟩ base k (He.ma K (He.ga K n) "__init__") fd ps ms sp) : MkF ⟨P, w, K, mg⟩ base k n ms dv sp := by
  obtain ⟨ds, h1, h2⟩ := hb
  exact ⟨_, fd, ps, dvs, ds, F, gB_mg KX G (He.ba q).1, mkB_ok KX G q, h2, h1, hd⟩
end
end Z
namespace Z
namespace K08
open PySem PySem.Spec PyProof.Rows L2
def top (i : Nat) : Stmt := PySem.Challenge.pw_kbestwood_k08_a_rule.main.body.getD i (.Pass ⟨0, 0, 0, 0⟩)
abbrev s_l_mix : Stmt := top 24
abbrev s_l_names : Stmt := top 25
abbrev s_l_at : Stmt := top 23
abbrev s_l_row : Stmt := top 30
abbrev s_l_spoilt_k08 : Stmt := top 29
abbrev s_l_faulty : Stmt := top 31
abbrev s_is_name : Stmt := top 17
abbrev s_is_word : Stmt := top 19
abbrev s_is_kind : Stmt := top 18
abbrev s_all_words : Stmt := top 20
abbrev s_Rule_init : Stmt := inClass (top 21) 0
abbrev s_l_made : Stmt := top 33
abbrev s_l_is_name : Stmt := top 26
abbrev s_l_is_word : Stmt := top 28
abbrev s_l_is_kind : Stmt := top 27
abbrev s_l_good : Stmt := top 32
abbrev s_l_is : Stmt := top 34
abbrev s_law_k08 : Stmt := top 35
def d_l_mix : He.DefD := ⟨("_law_mix", none), "_law_mix", "_law_mix", defArgs s_l_mix, defBody s_l_mix, defScope s_l_mix, [], []⟩
def d_l_names : He.DefD := ⟨("_law_names", none), "_law_names", "_law_names", defArgs s_l_names, defBody s_l_names, defScope s_l_names, [], []⟩
def d_l_at : He.DefD := ⟨("_law_at", none), "_law_at", "_law_at", defArgs s_l_at, defBody s_l_at, defScope s_l_at, [], []⟩
def d_l_row : He.DefD := ⟨("_law_row", none), "_law_row", "_law_row", defArgs s_l_row, defBody s_l_row, defScope s_l_row, [], []⟩
def d_l_spoilt_k08 : He.DefD := ⟨("_law_spoilt", none), "_law_spoilt", "_law_spoilt", defArgs s_l_spoilt_k08, defBody s_l_spoilt_k08, defScope s_l_spoilt_k08, [], []⟩
def d_l_faulty : He.DefD := ⟨("_law_faulty", none), "_law_faulty", "_law_faulty", defArgs s_l_faulty, defBody s_l_faulty, defScope s_l_faulty, [], []⟩
def d_is_name : He.DefD := ⟨("is_name", none), "is_name", "is_name", defArgs s_is_name, defBody s_is_name, defScope s_is_name, [], []⟩
def d_is_word : He.DefD := ⟨("is_word", none), "is_word", "is_word", defArgs s_is_word, defBody s_is_word, defScope s_is_word, [], []⟩
def d_is_kind : He.DefD := ⟨("is_kind", none), "is_kind", "is_kind", defArgs s_is_kind, defBody s_is_kind, defScope s_is_kind, [], []⟩
def d_all_words : He.DefD := ⟨("all_words", none), "all_words", "all_words", defArgs s_all_words, defBody s_all_words, defScope s_all_words, [], []⟩
def d_Rule_init : He.DefD := ⟨("Rule", some "__init__"), "__init__", "Rule.__init__", defArgs s_Rule_init, defBody s_Rule_init, defScope s_Rule_init, [.str "", .non], []⟩
def d_l_made : He.DefD := ⟨("_law_made", none), "_law_made", "_law_made", defArgs s_l_made, defBody s_l_made, defScope s_l_made, [], []⟩
def d_l_is_name : He.DefD := ⟨("_law_is_name", none), "_law_is_name", "_law_is_name", defArgs s_l_is_name, defBody s_l_is_name, defScope s_l_is_name, [], []⟩
def d_l_is_word : He.DefD := ⟨("_law_is_word", none), "_law_is_word", "_law_is_word", defArgs s_l_is_word, defBody s_l_is_word, defScope s_l_is_word, [], []⟩
def d_l_is_kind : He.DefD := ⟨("_law_is_kind", none), "_law_is_kind", "_law_is_kind", defArgs s_l_is_kind, defBody s_l_is_kind, defScope s_l_is_kind, [], []⟩
def d_l_good : He.DefD := ⟨("_law_good", none), "_law_good", "_law_good", defArgs s_l_good, defBody s_l_good, defScope s_l_good, [], []⟩
def d_l_is : He.DefD := ⟨("_law_is", none), "_law_is", "_law_is", defArgs s_l_is, defBody s_l_is, defScope s_l_is, [], []⟩
def d_law_k08 : He.DefD := ⟨("law", none), "law", "law", defArgs s_law_k08, defBody s_law_k08, defScope s_law_k08, [], []⟩
def fn : List He.DefD := [d_l_mix, d_l_names, d_l_at, d_l_row, d_l_spoilt_k08, d_l_faulty, d_is_name, d_is_word, d_is_kind, d_all_words, d_Rule_init, d_l_made, d_l_is_name, d_l_is_word, d_l_is_kind, d_l_good, d_l_is, d_law_k08]
def fa : List He.Fa := ([.glo "_law_mix", .glo "_law_names", .glo "_law_at", .glo "_law_row", .glo "_law_spoilt", .glo "_law_faulty", .glo "is_name", .glo "is_word", .glo "is_kind", .glo "all_words", .glo "_law_made", .glo "_law_is_name", .glo "_law_is_word", .glo "_law_is_kind", .glo "_law_good", .glo "_law_is", .glo "law", .free "len", .free "range", .str "SMALL" "abcdefghijklmnopqrstuvwxyz", .str "GREAT" "ABCDEFGHIJKLMNOPQRSTUVWXYZ", .str "FIGURES" "0123456789", .free "all", .free "tuple", .free "list"] : List He.Fa) ++ (([.free "isinstance", .free "ValueError"] : List He.Fa))
def names : List PySem.Str := (["__name__", "WoodError", "NoLine", "NoScale", "NoRule", "NoWeight", "Twice", "NoTitle", "NoKind", "Ring", "NoNet", "TooMany", "NoTree", "SMALL", "GREAT", "FIGURES", "is_name", "is_kind", "is_word", "all_words", "Rule", "_law_at", "_law_mix", "_law_names", "_law_is_name"] : List PySem.Str) ++ ((["_law_is_kind", "_law_is_word", "_law_spoilt", "_law_row", "_law_faulty", "_law_good", "_law_made", "_law_is"] : List PySem.Str))
abbrev R : PySem.W.OpenRow := PySem.W.OpenLaw.row PySem.Challenge.rw_kbestwood_k08_a_rule
def ez : List Fz := [xcB "NoRule", fldB "title" ["Rule"], fldB "head" ["Rule"], fldB "parts" ["Rule"], fldB "weight" ["Rule"], fldB "tag" ["Rule"], fldB "under" ["Rule"], excB "WoodError" ["WoodError", "NoLine", "NoScale", "NoRule", "NoWeight", "Twice", "NoTitle", "NoKind", "Ring", "NoNet", "TooMany", "NoTree"] [], gB "NoRule", isB [.cls "NoRule"] [("NoneType", false)] [("WoodError", false), ("NoLine", false), ("NoScale", false), ("NoRule", true), ("NoWeight", false), ("Twice", false), ("NoTitle", false), ("NoKind", false), ("Ring", false), ("NoNet", false), ("TooMany", false), ("NoTree", false)] [], isB [.ty "ValueError"] [("NoneType", false)] [("WoodError", true), ("NoLine", true), ("NoScale", true), ("NoRule", true), ("NoWeight", true), ("Twice", true), ("NoTitle", true), ("NoKind", true), ("Ring", true), ("NoNet", true), ("TooMany", true), ("NoTree", true)] [], gB "NoKind", gB "NoLine", gB "NoNet", gB "NoScale", isB [.cls "NoKind", .cls "NoLine", .cls "NoNet", .cls "NoScale"] [("NoneType", false)] [("WoodError", false), ("NoLine", true), ("NoScale", true), ("NoRule", false), ("NoWeight", false), ("Twice", false), ("NoTitle", false), ("NoKind", true), ("Ring", false), ("NoNet", true), ("TooMany", false), ("NoTree", false)] [], gB "NoTitle", gB "NoTree", gB "NoWeight", isB [.cls "NoTitle", .cls "NoTree", .cls "NoWeight"] [("NoneType", false)] [("WoodError", false), ("NoLine", false), ("NoScale", false), ("NoRule", false), ("NoWeight", true), ("Twice", false), ("NoTitle", true), ("NoKind", false), ("Ring", false), ("NoNet", false), ("TooMany", false), ("NoTree", true)] [], gB "Ring", gB "TooMany", gB "Twice", isB [.cls "Ring", .cls "TooMany", .cls "Twice"] [("NoneType", false)] [("WoodError", false), ("NoLine", false), ("NoScale", false), ("NoRule", false), ("NoWeight", false), ("Twice", true), ("NoTitle", false), ("NoKind", false), ("Ring", true), ("NoNet", false), ("TooMany", true), ("NoTree", false)] [], mkB "Rule"]
abbrev hk : PySem.W.Hook := hookZ 5 fa fn ez
def ob (s : PySem.W.SharedT) : He.AlD × Bool := obsZ 5 fa fn ez (HandSHeadRun.getT s)
theorem ob_eq (s : PySem.W.SharedT) : ob s = hk.obs s.abs := obsZ_eq (HandSHeadRun.getT_eq s)
theorem runA (w : World) (os : PySem.OsState) : (HandSHeadRun.endF (HandSHeadRun.stepQ (HandSHeadRun.denQ HandSHeadRun.tabQ) R.prog w) 20000 R.prog w os).map (fun s => HandSHeadRun.looksF R.prog (PySem.W.boot_heap w.params) s.abs) = some true := by
  kernel_rfl
theorem runB (w : World) (os : PySem.OsState) : (HandSHeadRun.endF (HandSHeadRun.stepQ (HandSHeadRun.denQ HandSHeadRun.tabQ) R.prog w) 20000 R.prog w os).map (fun s => HandSHeadRun.seenQ (PySem.W.view R.prog [35]) names (PySem.importedModules R.prog.main.body) (fun s => PySem.W.xlAt (PySem.W.view R.prog [35]) [] s && PySem.W.recOk R.toRowW.records s) s.abs) = some (PySem.W.openGood (PySem.W.view R.prog [35]) names) := by
  kernel_rfl
def vs : List He.FnW := [He.DefD.val d_l_mix, He.DefD.val d_l_names, He.DefD.val d_l_at, He.DefD.val d_l_row, He.DefD.val d_l_spoilt_k08, He.DefD.val d_l_faulty, He.DefD.val d_is_name, He.DefD.val d_is_word, He.DefD.val d_is_kind, He.DefD.val d_all_words, He.DefD.val d_Rule_init, He.DefD.val d_l_made, He.DefD.val d_l_is_name, He.DefD.val d_l_is_word, He.DefD.val d_l_is_kind, He.DefD.val d_l_good, He.DefD.val d_l_is, He.DefD.val d_law_k08]
theorem runC (w : World) (os : PySem.OsState) : (HandSHeadRun.endF (HandSHeadRun.stepQ (HandSHeadRun.denQ HandSHeadRun.tabQ) R.prog w) 20000 R.prog w os).map (fun s => ob s) = some ((true, vs), true) := by
  kernel_rfl
theorem map3 {α β γ δ : Type} {o : Option α} {f : α → β} {g : α → γ} {h : α → δ} {a : β} {b : γ} {c : δ} (h1 : o.map f = some a) (h2 : o.map g = some b) (h3 : o.map h = some c) : o.map (fun x => (f x, g x, h x)) = some (a, b, c) := by
  cases o with
  | none => cases h1
  | some x => cases h1; cases h2; cases h3; rfl
theorem run (w : World) : HandSHeadRun.RunEq R (PySem.W.view R.prog [35]) hk ob 20000 names w := fun os => map3 (runA w os) (runB w os) ((runC w os).trans (congrArg some (show ((true, vs), true) = hk.val w from rfl)))
section
open PySem.W PySem.Calls
set_option maxHeartbeats 0 in
theorem lawE (call : PySem.W.WalkO (PySem.W.view R.prog [35]) names (PySem.W.XL (PySem.W.view R.prog [35]) []) hk.says R.toRowW (HandSHeadRun.topDef R.prog 35) [] fun f vs => PySem.call f vs) : PySem.Challenge.rw_kbestwood_k08_a_rule.Holds := by
  w_on; o_law
  refine HandSHeadRun.head_any (r := R) (q := (PySem.W.view R.prog [35])) (H := hk) (ob := ob) (M := 20000) (loose := names) (d := HandSHeadRun.topDef R.prog 35) (kwd := []) ob_eq
    (by kernel_rfl) (fun s => by kernel_rfl) run (by kernel_rfl) (by kernel_rfl) (by kernel_rfl) (by rfl) (by first | assumption | decide +kernel) (by decide +kernel) ⟨rfl, rfl, rfl, rfl, rfl, by decide +kernel⟩ ?hw ?hc
  case hw => w_witness2
  case hc => exact call
end
end K08
end Z
namespace Z
open PySem PySem.Spec PyProof.Rows L2
open Evl (Ex)
def repS (z : Str) (n : Nat) : Str := ⟨(List.replicate n z.cps.toList).flatten.toArray⟩
theorem fold_rep (a : Array Nat) : ∀ (n : Nat) (acc : Array Nat), (List.replicate n a).foldl (· ++ ·) acc = acc ++ (List.replicate n a.toList).flatten.toArray
  | 0, acc => by simp
  | n + 1, acc => by
    rw [List.replicate_succ, List.foldl_cons, fold_rep a n, List.replicate_succ, List.flatten_cons]
    apply Array.ext'
    simp
theorem repS_fold (z : Str) (n : Nat) : (⟨(List.replicate n z.cps).foldl (· ++ ·) #[]⟩ : Str) = repS z n := by
  unfold repS
  rw [fold_rep]
  simp
theorem repS_one (z : Str) : repS z 1 = z := by
  obtain ⟨c⟩ := z
  simp [repS]
theorem repS_nil (z : Str) (n : Nat) (h : z.length = 0) : repS z n = z := by
  obtain ⟨c⟩ := z
  have h : c.size = 0 := h
  have : c = #[] := Array.eq_empty_of_size_eq_zero h
  subst this
  simp [repS]
theorem rep_len (l : List Nat) : ∀ n : Nat, (List.replicate n l).flatten.length = n * l.length
  | 0 => by simp
  | n + 1 => by rw [List.replicate_succ, List.flatten_cons, List.length_append, rep_len l n]; rw [Nat.succ_mul, Nat.add_comm]
theorem repS_len (z : Str) (n : Nat) : (repS z n).length = n * z.length := by
  obtain ⟨c⟩ := z
  show (List.replicate n c.toList).flatten.toArray.size = n * c.size
  rw [List.size_toArray, rep_len]
  simp
def rSMul : R2 := fun x y H Q => ∃ z n, x = .str z ∧ y = .int n ∧ 0 ≤ n ∧ n < 2 ^ 30 ∧ z.length * n.toNat ≤ sizeLine ∧ Q (.str (repS z n.toNat)) H
section
variable {X : Cx}
theorem op_smul : OpR X (binaryOp .Mult) rSMul := by
  intro pins s σ H x y v u Q I rx ry h
  obtain ⟨z, n, rfl, rfl, h0, h1, hz, q⟩ := h
  obtain ⟨t, rfl⟩ := rx
  obtain ⟨t2, rfl⟩ := ry
  have hl : Builtin.Str.tooLong (z.length * n.toNat) = false := by
    unfold Builtin.Str.tooLong
    exact decide_eq_false (Nat.not_lt.mpr hz)
  refine PySem.P.mul_str (by
      have a1 : ¬ n < -(2 ^ 63 : Int) := by omega
      have a2 : ¬ n ≥ 2 ^ 63 := by omega
      rw [decide_eq_false a1, decide_eq_false a2]; rfl) (fun h2 _ => ?_) (fun _ _ => hl) ?_
  · have e : n = (n.toNat : Int) := by omega
    have hs : (sizeLine : Nat) ≤ 2 ^ 40 := by decide
    have h3 : (z.length : Int) * n ≤ 2 ^ 40 := by
      rw [e]
      have : ((z.length * n.toNat : Nat) : Int) ≤ 2 ^ 40 := by omega
      rwa [Int.natCast_mul] at this
    have : (z.length : Int) ≤ (2 ^ 63 - 1) / n := (Int.le_ediv_iff_mul_le (by omega)).mpr (by omega)
    omega
  · split
    · rename_i h2
      have e : n.toNat = 0 := by omega
      rw [e] at q
      exact ⟨by decide, ⟨.str _, H, I.tok _, ⟨_, rfl⟩, q⟩⟩
    · split
      · rename_i h2 h3
        have e : repS z n.toNat = z := by
          rw [Bool.or_eq_true] at h3
          rcases h3 with h3 | h3
          · have := eq_of_beq h3
            subst this
            exact repS_one z
          · exact repS_nil z _ (eq_of_beq h3)
        rw [e] at q
        exact ⟨.str z, H, I, ⟨t, rfl⟩, q⟩
      · rw [repS_fold]
        refine ⟨?_, ⟨.str _, H, I.tok _, ⟨_, rfl⟩, q⟩⟩
        rw [repS_len, Nat.mul_comm]
        exact hz
end
def oMulA (x y : D) (Q : D → Prop) : Prop := match x, y with
  | .int i, .int j => Sm i ∧ Sm j ∧ Q (.int (i * j))
  | .str z, .int n => 0 ≤ n ∧ n < 2 ^ 30 ∧ z.length * n.toNat ≤ sizeLine ∧ Q (.str (repS z n.toNat))
  | _, _ => False
section
variable {X : Cx} {wx : WX} {e a b ob ce : Expr} {Ta Tb To T : DTE} {pos : Pos}
theorem rf_mulA {B : Bx} : RfO B (fun x y H Q => rI CMulW (fun i j => .int (i * j)) x y H Q ∨ rSMul x y H Q) oMulA := by
  intro W m M x y dx dy Q Qd mk rx ry h k
  unfold oMulA at h
  split at h
  · cases rx
    cases ry
    refine .inl ⟨_, _, rfl, rfl, ?_, k _ _ W h.2.2 (Wd.le.refl W) mk (.int _)⟩
    have h1 := h.1.log
    have h2 := h.2.1.log
    unfold CMulW
    omega
  · cases rx
    cases ry
    exact .inr ⟨_, _, rfl, rfl, h.1, h.2.1, h.2.2.1, k _ _ W h.2.2.2 (Wd.le.refl W) mk (.str _)⟩
  · exact h.elim
theorem de_mulA (ha : DR X wx a Ta) (hb : DR X wx b Tb) : DE X wx (.BinOp a .Mult b pos) (dOp oMulA Ta Tb) := de_op (op_mulW.or op_smul) rf_mulA ha hb
def dSM0 (o : SO) (To : DTE) : DTE := fun ρ M Q E => To ρ M (fun x M1 => onStr x fun z => o z [] fun d => Q d M1) E
theorem de_sm0 {r : V → List V → Hp → VK → Prop} {o : SO} (pb : ∀ {to}, PE X ob to → PE X ce (tBM0 X.K "str" r to)) (hr : RfSM (bx X) r o) (ho : DR X wx ob To) : DE X wx ce (dSM0 o To) := by
  obtain ⟨to, po, ro⟩ := ho
  refine ⟨_, pb po, fun W0 W m σ ρ M Q Qd Ed Re k h1 h2 h3 => ro W0 W m σ ρ M _ _ Ed Re k h1 (fun d v W' m' M' q le k' hv => ?_) h3⟩
  cases d with
  | str z =>
    cases hv
    exact ⟨rfl, hr W' m' M' z [] [] Q _ k' .nil q fun d3 v3 W3 q3 le3 k3 r3 => h2 d3 v3 W3 m' M' q3 (le.trans le3) k3 r3⟩
  | _ => exact q.elim
theorem rf_s0 {B : Bx} {r : V → List V → Hp → VK → Prop} {C : Str → Prop} {g : Str → V} {gd : Str → D} (hr : ∀ a H (Q : VK), C a → Q (g a) H → r (.str a) [] H Q) (hg : ∀ a F, Rp B F (g a) (gd a)) :
    RfSM B r (fun x ds Q => match ds with | [] => C x ∧ Q (gd x) | _ => False) := by
  intro W m M x us ds Q Qd mk hu h k
  split at h
  · cases hu
    exact hr _ _ _ h.1 (k _ _ W h.2 (Wd.le.refl W) mk (hg _ _))
  · exact h.elim
def soUpper : SO := fun x ds Q => match ds with | [] => x.length ≤ 5592405 ∧ Q (.str (Txt.upper x)) | _ => False
theorem rf_upper {B : Bx} : RfSM B (fun x xs H Q => ∃ a, x = .str a ∧ xs = [] ∧ a.length ≤ 5592405 ∧ Q (.str (Txt.upper a)) H) soUpper := rf_s0 (C := fun a => a.length ≤ 5592405) (fun a H Q c q => ⟨a, rfl, rfl, c, q⟩) fun _ _ => .str _
def soLower : SO := fun x ds Q => match ds with | [] => x.length ≤ 5592405 ∧ Q (.str (Txt.lower x)) | _ => False
theorem rf_lower {B : Bx} : RfSM B (fun x xs H Q => ∃ a, x = .str a ∧ xs = [] ∧ a.length ≤ 5592405 ∧ Q (.str (Txt.lower a)) H) soLower := rf_s0 (C := fun a => a.length ≤ 5592405) (fun a H Q c q => ⟨a, rfl, rfl, c, q⟩) fun _ _ => .str _
def soIsupper : SO := fun x ds Q => match ds with | [] => True ∧ Q (.bl (Txt.isupper x)) | _ => False
def dRepN (T : DTA) (Tb : DTE) : DTA := fun ρ M Q E => T ρ M (fun ds M1 => Tb ρ M1 (fun d M2 => match d with | .int n => 0 ≤ n ∧ n < 2 ^ 30 ∧ ds.length * n.toNat ≤ sizeLine ∧ Q (List.replicate n.toNat ds).flatten M2 | _ => False) E) E
theorem dn_rep {T : DTA} (ha : DN X wx a T) (hb : DE X wx b Tb) : DN X wx (.BinOp a .Mult b pos) (dRepN T Tb) := by
  obtain ⟨ta, pa, ra⟩ := ha
  obtain ⟨tb, pb, rb⟩ := hb
  refine ⟨_, pe_op op_rep pa pb, fun W0 W m σ ρ M Q Qd Ed R k h1 h2 h3 => ?_⟩
  refine ra W0 W m σ ρ M _ _ Ed R k h1 (fun ds p vs W' m' M' q le k' hn hp hf hv => ?_) h3
  refine rb W0 W' m' σ ρ M' _ _ Ed (R.mono le) k' q (fun d v W2 m2 M2 q2 le2 k2 hv2 => ?_) (h3.up le)
  cases d with
  | int n =>
    cases hv2
    obtain ⟨q0, q1, q3, q4⟩ := q2
    refine ⟨p, n, vs, rfl, rfl, cat_some (le2.h _ _ hp), by omega, by omega, by rw [hv.length]; exact q3, fun l hl => ?_⟩
    exact newO (le.trans le2) k2 hl ((hv.mono le2.f).rep _) fun W4 l4 k4 h4 h5 h6 h7 => h2 _ l _ W4 m2 M2 q4 l4 k4 h4 h5 h6 h7
  | _ => exact q2.elim
end
section
variable {X : Cx} {wx : WX} {a b c d : Expr} {ta tb tc td : TE} {Ta Tb Tc Td : DTE} {pos : Pos} {op1 op2 op3 : CmpOp} {r1 r2 r3 : R2} {o1 o2 o3 : OpD}
def dChain3 (o1 o2 o3 : OpD) (a b c d : DTE) : DTE := fun ρ M Q E => a ρ M (fun x M1 => b ρ M1 (fun y M2 => o1 (drf M2 x) (drf M2 y) fun z => match z with
  | .bl k => if k = true then c ρ M2 (fun w M3 => o2 (drf M3 y) (drf M3 w) fun z2 => match z2 with
    | .bl k2 => if k2 = true then d ρ M3 (fun v M4 => o3 (drf M4 w) (drf M4 v) fun e => Q e M4) E else Q (.bl false) M3
    | _ => False) E else Q (.bl false) M2
  | _ => False) E) E
end
abbrev DHd := List (List Str × List Str × DTS)
def exM (DD : DEnds) : DHd → Str → List Ent → Mu → Prop
  | [] => DD.ex
  | (yes, no, Su) :: r => fun C ρ M => (C ∈ yes ∧ Su { DD with ex := fun _ _ _ => False } ρ M) ∨ (C ∈ no ∧ exM DD r C ρ M)
inductive DHds (X : Cx) : List ExceptHandler → DHd → Prop
  | nil : DHds X [] []
  | cons {x : Str} {yes no : List Str} {Su : DTS} {b₀ : Stmt} {suite : List Stmt} {np pos' : Pos} {hds : List ExceptHandler} {l : DHd} (hx : ExcF (bx X) x yes no) (hg : Gl X x) (hd : (x == ("__debug__" : Str)) = false)
      (hsu : ∀ (a : Addr) (pn : List (Addr × Obj)), DSs (X.suite a pn) (fun _ _ _ _ => False) (b₀ :: suite) Su) (r : DHds X hds l) : DHds X (.ExceptHandler (some (.Name x np)) none (b₀ :: suite) pos' :: hds) ((yes, no, Su) :: l)
theorem DHds.ok {X : Cx} {wx : WX} {hds : List ExceptHandler} {l : DHd} (h : DHds X hds l) : ∃ l', HdsOk X hds l' ∧ ∀ (W0 : Wd) (D : Ends) (DD : DEnds), EndsOk (bx X) wx W0 D DD → ∀ (C : Str) (W : Wd) (m : Hp) (σ : L2.St) (ρ : List Ent) (M : Mu), Rel (bx X) W0 W σ ρ → MOk (bx X) W M m → exM DD l C ρ M →
    wMany X.K wx D l' (.ref ((bx X).cl C)) none σ (cat W.H m) := by
  induction h with
  | nil => exact ⟨[], .nil, fun W0 D DD k C W m σ ρ M R mk q => k.ex C W m σ ρ M R mk q⟩
  | @cons x yes no Su b₀ suite np pos' hds l hx hg hd hsu r ih =>
    obtain ⟨l', h1, h2⟩ := ih
    refine ⟨(.ref ((bx X).cl x), fun a _ _ D σ H => ∀ pn, (hsu a pn).choose D σ H) :: l', .cons ⟨hg, hd, .inl hx.mg⟩ (fun a oe cls d pn _ _ => ⟨fun pins s σ H D I q => ?_⟩) h1, fun W0 D DD k C W m σ ρ M R mk q => ?_⟩
    · exact (hsu a ((a, oe) :: pn)).choose_spec.1.run pins s σ H D I (q _)
    · rcases q with ⟨hy, q⟩ | ⟨hn, q⟩
      · exact ⟨true, hx.yes C hy, (fun _ a _ pn => (hsu a pn).choose_spec.2 W0 W m σ ρ M D _ R mk q ⟨k.nx, k.rt, k.bk, k.ct, fun _ _ _ _ _ _ _ _ z => z⟩), (fun z => by cases z)⟩
      · exact ⟨false, hx.no C hn, (fun z => by cases z), fun _ => h2 W0 D DD k C W m σ ρ M R mk q⟩
def dTryM (l : DHd) (S : DTS) : DTS := fun DD ρ M => S { DD with ex := exM DD l } ρ M
end Z
namespace Z
open PySem PySem.Spec PyProof.Rows L2
open Evl (Ex)
def bls : List D → Option (List Bool)
  | [] => some []
  | .bl b :: r => (bls r).map (b :: ·)
  | _ :: _ => none
theorem bls_of : ∀ {ds : List D} {ys : List Bool}, bls ds = some ys → ds = ys.map .bl
  | [], ys, h => by cases h; rfl
  | .bl x :: r, ys, h => by
    unfold bls at h
    obtain ⟨zs, h1, h2⟩ := Option.map_eq_some_iff.mp h
    subst h2
    rw [bls_of h1]; rfl
  | .non :: _, _, h => by cases h
  | .str _ :: _, _, h => by cases h
  | .int _ :: _, _, h => by cases h
  | .lst _ :: _, _, h => by cases h
  | .tup _ :: _, _, h => by cases h
  | .obj _ _ :: _, _, h => by cases h
  | .ref _ :: _, _, h => by cases h
  | .ty _ :: _, _, h => by cases h
  | .cls _ :: _, _, h => by cases h
  | .exc _ :: _, _, h => by cases h
  | .dic _ _ :: _, _, h => by cases h
theorem bls_map : ∀ ys : List Bool, bls (ys.map .bl) = some ys
  | [] => rfl
  | y :: ys => by show (bls (ys.map .bl)).map (y :: ·) = _; rw [bls_map ys]; rfl
def oAll (ds : List D) (Q : D → Prop) : Prop := match ds with | [.lst xs] => ∃ bs, bls xs = some bs ∧ Q (.bl (bs.all id)) | _ => False
theorem rf_all {B : Bx} : RfC B (rAll B.K) oAll := by
  intro W m M vs ds Q Qd mk rs h k
  unfold oAll at h
  split at h
  · obtain ⟨bs, e, h⟩ := h
    have e := bls_of e
    subst e
    cases rs with
    | cons r t =>
      cases t
      obtain ⟨p, vs, rfl, s1, s2⟩ := r
      rw [s2.bls] at s1
      exact ⟨p, bs, rfl, s1, k _ _ W h (Wd.le.refl W) mk (.bl _)⟩
  · exact h.elim
def zipD (xs ys : List D) : List D := (xs.zip ys).map fun p => D.tup [p.1, p.2]
def dZip (R : DTA) : DTA := fun ρ M Q E => R ρ M (fun ds M' => match ds with | [.lst xs, .lst ys] => Q (zipD xs ys) M' | [.tup xs, .tup ys] => Q (zipD xs ys) M' | _ => False) E
section
variable {X : Cx} {wx : WX} {e a b : Expr} {T Ta Tb : DTE} {pos : Pos}
end
section
variable {prog : Program} {w : World} {A : Around} {E : Value → Shared → Prop} {s : Shared}
end
section
variable {X : Cx} {wx : WX} {e a b : Expr} {T Ta Tb : DTE} {pos : Pos}
def oListRev (x : D) (Q : List D → Prop) : Prop := match x with | .lst xs => Q xs.reverse | _ => False
def dListRev (T : DTE) : DTA := fun ρ M Q E => T ρ M (fun x M' => oListRev (drf M' x) fun ds => Q ds M') E
end
end Z
namespace Z
open PySem PySem.Spec PyProof.Rows L2
open Evl (Ex)
def obD : Ob → D
  | .lst ds => .lst ds
  | .dic t ks => .dic t ks
  | .ins n fs => .obj n fs
theorem MOk.nn {B : Bx} {W : Wd} {M : Mu} {m : Hp} (k : MOk B W M m) {p : Addr} (h : m p = none) : M p = none := by
  cases z : M p with
  | none => rfl
  | some ob => have o1 := k.ok p; rw [z] at o1; exact absurd h o1.ne
theorem MOk.freezeA {B : Bx} {W : Wd} {M : Mu} {m : Hp} {a : Addr} {ob : Ob} (h : MOk B W M m) (e : M a = some ob) : ∃ W' m', cat W'.H m' = cat W.H m ∧ W.le W' ∧ MOk B W' (delM M a) m' ∧ Rp B W'.F (.ref a) (obD ob) := by
  have hH := h.hn e
  have o1 := h.ok a
  rw [e] at o1
  have go : ∀ o : HO, m a = some o → (∀ F', Ex W.F F' → F' a = some o → Rp B F' (.ref a) (obD ob)) → ∃ W' m', cat W'.H m' = cat W.H m ∧ W.le W' ∧ MOk B W' (delM M a) m' ∧ Rp B W'.F (.ref a) (obD ob) := fun o o2 o3 => by
    refine ⟨W.new a o, fun b => if b = a then none else m b, ?_, W.le_new hH, ⟨fun b hb => ?_, fun b => ?_⟩, o3 _ (W.le_new hH).f upd_same⟩
    · funext b
      by_cases z : b = a
      · subst z
        rw [cat_some (show (W.new b o).H b = _ from upd_same), cat_none hH, o2]
      · unfold cat
        dsimp only
        rw [show (W.new a o).H b = W.H b from upd_ne z, if_neg z]
    · by_cases z : b = a
      · rw [if_pos z]
      · rw [if_neg z]
        refine h.dj b ?_
        rw [← show (W.new a o).H b = W.H b from upd_ne z]; exact hb
    · unfold delM
      by_cases z : b = a
      · rw [if_pos z, if_pos z]; trivial
      · rw [if_neg z, if_neg z]; exact (h.ok b).mono (W.le_new hH).f
  cases ob with
  | lst ds => obtain ⟨vs, o2, o3⟩ := o1; exact go _ o2 fun F' ex hf => .lst (SqL.of hf) (o3.mono ex)
  | dic t ks =>
    rcases o1 with ⟨rfl, kv, o, o2, o3⟩ | ⟨rfl, xs, o, o2, o3⟩
    · exact go _ o2 fun F' ex hf => .dic hf (o3.mono ex)
    · exact go _ o2 fun F' ex hf => .dit hf (o3.mono ex)
  | ins n fs => obtain ⟨dx, fv, o2, o3⟩ := o1; exact go _ o2 fun F' ex hf => .obj hf (o3.mono ex)
section
variable {X : Cx} {wx : WX} {e a b c o f : Expr} {es : List Expr} {T Ta Tb Tc To Tk Tx : DTE} {pos pos' apos : Pos} {st : Stmt} {S : DTS} {rest : List Stmt}
def dFrzM (i : Nat) (S : DTS) : DTS := fun DD ρ M => match ga ρ i with
  | .dat (.ref a) => (match M a with | some ob => S DD (ρ.set i (.dat (obD ob))) (delM M a) | none => S DD ρ M)
  | _ => S DD ρ M
theorem DN.sto {T : DTA} (h : DN X wx e T) : DE X wx e (dLstM T) := by
  obtain ⟨t, p, r⟩ := h
  refine ⟨t, p, fun W0 W m σ ρ M Q Qd Ed R k h1 h2 h3 => r W0 W m σ ρ M Q _ Ed R k h1 (fun ds p vs W' m' M' q le k' hn hp hf hv => ?_) h3⟩
  have mp : m' p = none := k'.dj p (by rw [hp]; exact fun z => by cases z)
  have exH : Ex W'.F (fun b => if b = p then none else W'.H b) := fun b o z => by
    dsimp only
    rw [if_neg (fun y => by subst y; rw [hf] at z; cases z)]
    exact W'.ok b o z
  have le3 : W.le ⟨W'.F, fun b => if b = p then none else W'.H b, exH⟩ := ⟨le.f, fun b o z => by
    dsimp only
    rw [if_neg (fun y => by subst y; rw [hn] at z; cases z)]
    exact le.h b o z, le.n⟩
  have k3 : MOk (bx X) ⟨W'.F, fun b => if b = p then none else W'.H b, exH⟩ M' m' := ⟨fun b hb => k'.dj b (fun z => hb (by
    dsimp only
    split
    · rfl
    · exact z)), k'.ok⟩
  have k4 := k3.put (a := p) (ob := .lst ds) (o := .lst vs) (if_pos rfl) ⟨vs, rfl, hv⟩
  have e1 : cat (fun b => if b = p then none else W'.H b) (upd m' p (.lst vs)) = cat W'.H m' := by
    funext b
    by_cases z : b = p
    · subst z
      rw [cat_none (if_pos rfl), upd_same, cat_some hp]
    · unfold cat
      dsimp only
      rw [if_neg z, upd_ne z]
  have := h2 (.ref p) (.ref p) _ _ _ (q p (k'.nn mp)) le3 k4 (.ref p)
  rw [← e1]
  exact this
def dDnew (t : Bool) : DTE := fun _ M Q _ => ∀ a, M a = none → Q (.ref a) (updM M a (.dic t []))
def onDic (M : Mu) (d : D) (K : Addr → Bool → List (D × D) → Prop) : Prop := match d with
  | .ref a => (match M a with | some (.dic t ks) => K a t ks | _ => False)
  | _ => False
def dDput (To Tk Tv : DTE) : DTS := fun DD ρ M => Tv ρ M (fun v M1 => To ρ M1 (fun x M2 => Tk ρ M2 (fun k M3 => onDic M3 x fun a t ks => kOkB t k = true ∧ ks.length < sizeLine ∧ DD.nx ρ (updM M3 a (.dic t (putG ks k v)))) fun C => DD.ex C ρ) fun C => DD.ex C ρ) fun C => DD.ex C ρ
def onDicR (M : Mu) (d : D) (K : Bool → List (D × D) → Prop) : Prop := match drf M d with | .dic t ks => K t ks | _ => False
def dDget (To Tk Tx : DTE) : DTE := fun ρ M Q E => To ρ M (fun x M1 => onDicR M1 x fun _ _ => Tk ρ M1 (fun k M2 => Tx ρ M2 (fun d M3 => onDicR M3 x fun t ks => kOkB t k = true ∧ Q ((getK ks k).getD d) M3) E) E) E
def setdK (ks : List (D × D)) (k : D) (P : D → Prop) (N : Prop) : Prop := match getK ks k with | some d => P d | none => N
def dDsetd (To Tk Tx : DTE) : DTE := fun ρ M Q E => To ρ M (fun x M1 => onDicR M1 x fun _ _ => Tk ρ M1 (fun k M2 => Tx ρ M2 (fun d M3 => onDic M3 x fun a t ks => kOkB t k = true ∧ ks.length < sizeLine ∧ setdK ks k (fun d' => Q d' M3) (Q d (updM M3 a (.dic t (putG ks k d))))) E) E) E
def onLst (M : Mu) (d : D) (K : Addr → List D → Prop) : Prop := match d with
  | .ref a => (match M a with | some (.lst ds) => K a ds | _ => False)
  | _ => False
theorem onLst_of {M : Mu} {d : D} {K : Addr → List D → Prop} (h : onLst M d K) : ∃ a ds, d = .ref a ∧ M a = some (.lst ds) ∧ K a ds := by
  unfold onLst at h
  split at h
  · split at h
    · rename_i z; exact ⟨_, _, rfl, z, h⟩
    · exact h.elim
  · exact h.elim
def dLmX (o : LM) (To : DTE) (R : DTA) : DTE := fun ρ M Q E => To ρ M (fun x M1 => onLst M1 x fun _ _ => R ρ M1 (fun as M2 => onLst M2 x fun a ds => o M2 ds as fun d ds' => Q d (updM M2 a (.lst ds'))) E) E
variable {ms : List Bool} {r : V → List V → Hp → VK → Prop} {lm : LM} {ce : Expr} {R : DTA}
def dOrG (t u : DTE) : DTE := fun ρ M Q E => t ρ M (fun x M' => truD (drf M' x) fun c => if c = true then Q x M' else u ρ M' Q E) E
def dVarP (i : Nat) : DTE := fun ρ M Q _ => match ga ρ i with
  | .dat d => Q d M
  | .bor (.lst _) => ∀ a, Q (.ref a) M
  | .bor .non => Q .non M
  | .bor (.tup ds) => Q (.tup ds) M
  | _ => False
theorem de_varP (i : Nat) {x : Str} (hN : X.N[i]? = some x := by rfl) (hv : Vis X.env.scope x := by first | exact Or.inl rfl | exact Or.inr (Or.inl rfl) | exact Or.inr (Or.inr rfl)) (hd : (x == ("__debug__" : Str)) = false := by decide)
    (hcd : (x == ("__classdict__" : Str)) = false := by decide) : DE X wx (.Name x pos) (dVarP i) := by
  refine ⟨_, pe_var hN hv hd hcd, fun W0 W m σ ρ M Q Qd Ed R k h1 h2 h3 => ?_⟩
  unfold dVarP at h1
  obtain ⟨le, _, ad, _, h4⟩ := id R
  have q := h4 i
  split at h1
  · rename_i d z
    obtain ⟨v, e, r⟩ := R.dat z
    exact ⟨v, e, h2 d v W m M h1 (Wd.le.refl W) k r⟩
  · rename_i ds z
    rw [z] at q
    obtain ⟨v, q1, q2⟩ := q
    have : ∃ b, v = .ref b := by
      rcases q2 with ⟨b, vs, e1, e2, e3⟩ | q2
      · exact ⟨b, e1⟩
      · cases q2 with
        | lst e2 e3 => exact ⟨_, rfl⟩
    obtain ⟨b, rfl⟩ := this
    exact ⟨_, q1, h2 _ _ W m M (h1 b) (Wd.le.refl W) k (.ref b)⟩
  · rename_i z
    rw [z] at q
    obtain ⟨v, q1, q2⟩ := q
    have q2 : Rp (bx X) W.F v .non := q2.elim (fun z => z) id
    exact ⟨_, q1, h2 _ _ W m M h1 (Wd.le.refl W) k q2⟩
  · rename_i ds z
    rw [z] at q
    obtain ⟨v, q1, q2⟩ := q
    have q2 : Rp (bx X) W.F v (.tup ds) := q2.elim (fun z => z) id
    exact ⟨_, q1, h2 _ _ W m M h1 (Wd.le.refl W) k q2⟩
  · exact h1.elim
def dItC (i : Nat) : DTA := fun ρ M Q _ => match ga ρ i with | .bor (.lst ds) => Q ds M | .dat (.lst ds) => Q ds M | .bor (.tup ds) => Q ds M | .dat (.tup ds) => Q ds M | _ => False
theorem di_borC {tg : Expr} (i : Nat) {x : Str} (hN : X.N[i]? = some x := by rfl) (hv : Vis X.env.scope x := by first | exact Or.inl rfl | exact Or.inr (Or.inl rfl) | exact Or.inr (Or.inr rfl)) (hd : (x == ("__debug__" : Str)) = false := by decide)
    (hcd : (x == ("__classdict__" : Str)) = false := by decide) : DI X wx tg (.Name x pos) (dItC i) := by
  refine ⟨_, pi_any (pe_var hN hv hd hcd), fun W0 W m σ ρ M Q Qd Ed R mk h1 h2 h3 => ?_⟩
  unfold dItC at h1
  obtain ⟨le, _, ad, _, h4⟩ := id R
  have q := h4 i
  have tups : ∀ v ds, Rp (bx X) W.F v (.tup ds) → Qd ds M → σ[i]? = some (some v) → iAny (bx X) (tVar i) σ (cat W.H m) Q := fun v ds hv h1 e => by
    cases hv with
    | tup h4 h5 => exact ⟨_, e, .inr (.inl ⟨_, rfl, ⟨_, Evl.ex_t (W.ok.trans (cat_ex W.H m)) h4⟩, h2 ds _ W m M h1 (Wd.le.refl W) mk (itt_ok (B := bx X) (fun W'' _ ex => Evl.ex_t W''.ok (Evl.ex_t ex h4)) h5)⟩)⟩
  split at h1
  · rename_i ds z
    rw [z] at q
    obtain ⟨v, q1, q2⟩ := q
    have : ∃ b vs, v = .ref b ∧ (SqL X.K W0.H b vs ∨ SqL X.K W.F b vs) ∧ RpAll (bx X) W.F vs ds := by
      rcases q2 with ⟨b, vs, e1, e2, e3⟩ | q2
      · exact ⟨b, vs, e1, .inl e2, e3⟩
      · cases q2 with
        | lst e2 e3 => exact ⟨_, _, rfl, .inr e2, e3⟩
    obtain ⟨b, vs, rfl, q2, q3⟩ := this
    have hs : ∀ W', W0.le W' → Ex W.F W'.F → SqL X.K W'.H b vs := fun W' l ex => q2.elim (Evl.ex_l l.h) fun z => Evl.ex_l W'.ok (Evl.ex_l ex z)
    exact ⟨_, q1, .inl ⟨_, rfl, ⟨_, Evl.ex_l (cat_ex W.H m) (hs W le (Ex.refl _))⟩, h2 _ _ W m M h1 (Wd.le.refl W) mk (itl_ok (B := bx X) hs q3)⟩⟩
  · rename_i ds z
    rw [z] at q
    obtain ⟨v, q1, q2⟩ := q
    cases q2 with
    | lst h4 h5 => exact ⟨_, q1, .inl ⟨_, rfl, ⟨_, Evl.ex_l (W.ok.trans (cat_ex W.H m)) h4⟩, h2 _ _ W m M h1 (Wd.le.refl W) mk (itl_ok (B := bx X) (fun W'' _ ex => Evl.ex_l W''.ok (Evl.ex_l ex h4)) h5)⟩⟩
  · rename_i ds z
    rw [z] at q
    obtain ⟨v, q1, q2⟩ := q
    exact tups v ds (q2.elim (fun z => z) id) h1 q1
  · rename_i ds z
    rw [z] at q
    obtain ⟨v, q1, q2⟩ := q
    exact tups v ds q2 h1 q1
  · exact h1.elim
end
section
variable {X : Cx} {wx : WX} {st : Stmt} {S : DTS}
end
def leM (M2 M : Mu) : Prop := ∀ b ob, M2 b = some ob → M b = some ob
theorem leM.refl (M : Mu) : leM M M := fun _ _ h => h
theorem leM.trans {M1 M2 M3 : Mu} (h : leM M1 M2) (h2 : leM M2 M3) : leM M1 M3 := fun b ob z => h2 b ob (h b ob z)
theorem leM.upd {M : Mu} {a : Addr} {o : Ob} (h : M a = none) : leM M (updM M a o) := fun b ob z => by
  rw [updM_ne (fun y => by subst y; rw [h] at z; cases z)]; exact z
def endsW (Q : D → Mu → Prop) (E : Str → Mu → Prop) : DEnds := ⟨fun _ M => ∃ M2, leM M2 M ∧ Q .non M2, fun d M => ∃ M2, leM M2 M ∧ Q d M2, fun _ _ => False, fun _ _ => False, fun C _ M => ∃ M2, leM M2 M ∧ E C M2⟩
theorem fnok_ofW {B : Bx} {base : Heap} {x qual : Str} {pm : Arguments} {bd : List Stmt} {sc : Scope} {dvs : List V} {kws : List (Str × V)} {f : Addr} {fd : FuncData} {N ps : List Str} {ms : List Bool} {sp : SpM} {T : DTS} {k : Nat} (F : FunD B.K x qual pm bd sc dvs kws f fd) (S : FnScope N ps sc)
    (body : ∀ (cdv : Value) (A : Around) (outer : List Env) (s : Shared) (H : Hp) (E : XK), Room k (cxF B base N qual sc f cdv A outer s H E).A → Takes (cxF B base N qual sc f cdv A outer s H E) (wxF E) →
      PassesOwn (model B.P B.w) (cxF B base N qual sc f cdv A outer s H E).A (cxF B base N qual sc f cdv A outer s H E).env (cxF B base N qual sc f cdv A outer s H E).xe →
      DSs (cxF B base N qual sc f cdv A outer s H E) (wxF E) bd T)
    (spec : ∀ ds M Q E, sp ds M Q E → T (endsW Q E) (startE ms N.length ds) M) (hl : ms.length = ps.length := by rfl) : FnB B base (k + 1) f fd ps ms sp := by
  refine F.ok S (fun vs H Q E h => ?_) (fun cdv A outer s H vs Q E hr h => ?_)
  · obtain ⟨W, m, M, ds, Qd, Ed, _, _, hA, _⟩ := h
    rw [ms_len hA, hl]
  · obtain ⟨W, m, M, ds, Qd, Ed, rfl, mk, hA, hsp, h1, h2⟩ := h
    obtain ⟨t, p, r⟩ := body cdv A outer s (cat W.H m) E hr (takes_of rfl rfl rfl rfl) (passes_of rfl)
    refine ⟨t, p, ?_⟩
    have hp : ps.length ≤ N.length := by
      have := congrArg List.length S.pre
      rw [List.length_take] at this
      omega
    refine r W W m _ _ M _ _ (rel_start hA (by rw [ms_len hA, hl]; exact hp)) mk (spec ds M Qd Ed hsp) ⟨fun W' m' σ ρ M' R mk' q => ?_, fun d v W' m' M' le mk' rv q => ?_, fun _ _ _ _ _ _ _ q => q.elim, fun _ _ _ _ _ _ _ q => q.elim, fun C W' m' σ ρ M' R mk' q => ?_⟩
    · obtain ⟨M2, l, q⟩ := q
      exact h1 .non .non W' m' M2 q R.le (mk'.weak l) .non
    · obtain ⟨M2, l, q⟩ := q
      exact h1 d v W' m' M2 q le (mk'.weak l) rv
    · obtain ⟨M2, l, q⟩ := q
      exact h2 C W' m' M2 q R.le (mk'.weak l)
end Z
namespace Z
open PySem PySem.Spec PyProof.Rows L2
section
variable {prog : Program} {w : World} {A : Around} {E : Value → Shared → Prop} {s : Shared} {l : Addr} {xs : Array (Int × Tok)}
end
section
variable {X : Cx}
end
def oMinT (ds : List D) (Q : D → Prop) : Prop := match ds with | [.tup [.int i, .int j]] => Q (.int (if j < i then j else i)) | _ => False
def oMaxT (ds : List D) (Q : D → Prop) : Prop := match ds with | [.tup [.int i, .int j]] => Q (.int (if j > i then j else i)) | _ => False
def isLD : D → Prop
  | .lst _ => True
  | _ => False
def oIdx (x : D) (as : List D) (Q : D → Prop) : Prop := match x, as with
  | .lst ys, [.str z] => ∃ (ss : List Str) (j : Nat), ys = ss.map .str ∧ ss[j]? = some z ∧ (∀ k : Nat, k < j → ss[k]? ≠ some z) ∧ Q (.int (j : Nat))
  | _, _ => False
def dLidx (To : DTE) (R : DTA) : DTE := fun ρ M Q E => To ρ M (fun x M1 => isLD (drf M1 x) ∧ R ρ M1 (fun as M2 => oIdx (drf M2 x) (as.map (drf M2)) fun d => Q d M2) E) E
section
variable {X : Cx} {wx : WX} {e o ce : Expr} {es : List Expr} {To : DTE} {R : DTA} {ms : List Bool}
end
end Z
namespace Z
open PySem L2
def fD (p : Rat) : D := .tup [.int p.num, .int (p.den : Int)]
theorem Sm.mono {i j : Int} (h : Sm j) (e : i.natAbs ≤ j.natAbs) : Sm i := Nat.lt_of_le_of_lt e h
theorem sm_of {i : Int} {n : Nat} (h : i.natAbs < 2 ^ n) (hn : n ≤ 9000 := by decide) : Sm i := Nat.lt_of_lt_of_le h (Nat.pow_le_pow_right (by decide) hn)
theorem mul_bd {a b A B : Int} (h0 : 0 ≤ a) (h1 : a ≤ A) (h2 : 0 ≤ b) (h3 : b ≤ B) : 0 ≤ a * b ∧ a * b ≤ A * B :=
  ⟨Int.mul_nonneg h0 h2, Int.mul_le_mul h1 h3 h2 (by omega)⟩
theorem sm_lit {i : Int} (h1 : -(2 ^ 200) < i) (h2 : i < 2 ^ 200) : Sm i := sm_of (n := 200) (by omega)
end Z
namespace Z
open PySem PySem.Spec PyProof.Rows L2
open Evl (Ex)
structure FnQ (B : Bx) (base : Heap) (k : Nat) (f : Addr) (fd : FuncData) (ps : List Str) (sp : Sp) : Prop where
  len : ∀ vs H Q E, sp vs H Q E → vs.length = ps.length
  go : ∀ (A : Around) (outer : List Env) (s : Shared) (H : Hp) (args : Args) (us : List Value) (vs : List V) (Q : VK) (E : XK), L2H.RoomH k A → Env0 B.P B.w B.K B.mg base A outer s H → BindsTo s fd args (ps.zip us) → Vals vs us → sp vs H Q E →
    codeAny (model B.P B.w) A (.call (.ref f) args) (CR (L2.CX B.P B.w) outer B.P B.w H s Q E) s
section
variable {B : Bx} {base : Heap}
structure FnN (B : Bx) (base : Heap) (k : Nat) (x : Str) (ms : List Bool) (sp : SpM) : Prop where
  ex : ∃ f fd ps, FnQ B base k f fd ps (liftSp B ms sp) ∧ B.mg x = some (.ref f) ∧ PySem.W.keepIn B.K (.ref f) = true ∧ Binds B.K fd ps []
theorem FnN.mk' {x qual : Str} {pm : Arguments} {bd : List Stmt} {sc : Scope} {f : Addr} {fd : FuncData} {ps : List Str} {ms : List Bool} {sp : SpM} {k : Nat} (F : FunD B.K x qual pm bd sc [] [] f fd) (hm : B.mg x = some (.ref f)) (hb : Binds B.K fd ps []) (G : FnQ B base k f fd ps (liftSp B ms sp)) : FnN B base k x ms sp := ⟨f, fd, ps, G, hm, F.kp, hb⟩
end
section
variable {X : Cx} {wx : WX} {e : Expr} {es : List Expr} {pos p : Pos}
end
section
variable {prog : Program} {w : World} {A : Around} {E : Value → Shared → Prop} {s : Shared}
end
section
variable {prog : Program} {w : World} {A : Around} {E : Value → Shared → Prop} {s : Shared}
end
def dZipM (R : DTA) : DTA := fun ρ M Q E => R ρ M (fun ds M' => match ds with | [.tup xs, .lst ys] => Q (zipD xs ys) M' | _ => False) E
section
variable {X : Cx} {wx : WX} {e a b : Expr} {T Ta Tb : DTE} {pos : Pos}
end
theorem FnB.no {B : Bx} {base : Heap} {k : Nat} {f : Addr} {fd : FuncData} {ps : List Str} {ms : List Bool} {sp : SpM} (h : ∀ ds M Q E, sp ds M Q E → False) : FnB B base k f fd ps ms sp :=
  ⟨fun _ _ _ _ ⟨_, _, _, _, _, _, _, _, _, z, _⟩ => (h _ _ _ _ z).elim, fun _ _ _ _ _ _ _ _ _ _ _ _ _ ⟨_, _, _, _, _, _, _, _, _, z, _⟩ => (h _ _ _ _ z).elim⟩
end Z
namespace Z
open PySem PySem.Spec PyProof.Rows L2
open Evl (Ex)
section
variable {X : Cx} {wx : WX} {st : Stmt} {S : DTS} {e : Expr}
def dTake (i : Nat) (S : DTS) : DTS := fun DD ρ M => match ga ρ i with
  | .dat (.ref a) => (match M a with | some (.lst ds) => S DD (ρ.set i (.own ds)) (delM M a) | _ => S DD ρ M)
  | _ => S DD ρ M
def lend1 : Ent → Ent
  | .own ds => .bor (.lst ds)
  | .dk t ks => .bor (.dic t ks)
  | e => e
def lendE : List Ent → List Ent
  | [] => []
  | e :: r => lend1 e :: lendE r
def dLendT (U : DTT) : DTT := fun ρ M Q E => U (lendE ρ) M Q E
def dLendE (T : DTE) : DTE := fun ρ M Q E => T (lendE ρ) M Q E
end
end Z
namespace Z
open PySem PySem.Spec PyProof.Rows L2
open Evl (Ex)
section
variable {X : Cx} {wx : WX} {e o b : Expr} {es : List Expr} {T To Tk Ta : DTE} {pos tpos : Pos}
def fzv (d : D) (M : Mu) (Q : D → Mu → Prop) : Prop := match d with
  | .ref a => (match M a with | some ob => Q (obD ob) (delM M a) | none => Q (.ref a) M)
  | d => Q d M
def dFzv (T : DTE) : DTE := fun ρ M Q E => T ρ M (fun d M1 => fzv d M1 Q) E
theorem DE.fzv (h : DE X wx e T) : DE X wx e (dFzv T) := by
  obtain ⟨t, p, r⟩ := h
  refine ⟨t, p, fun W0 W m σ ρ M Q Qd Ed R k h1 h2 h3 => r W0 W m σ ρ M Q _ Ed R k h1 (fun d v W' m' M' q le k' hv => ?_) h3⟩
  unfold Z.fzv at q
  split at q
  · rename_i a
    split at q
    · rename_i ob z
      cases hv
      obtain ⟨W2, m2, e1, le2, k2, rp⟩ := k'.freezeA z
      rw [← e1]
      exact h2 _ _ W2 m2 _ q (le.trans le2) k2 rp
    · exact h2 _ v W' m' M' q le k' hv
  · exact h2 _ v W' m' M' q le k' hv
def dStoreX (To Tk Te : DTE) : DTS := fun DD ρ M => Te ρ M (fun d M1 => To ρ M1 (fun x M2 => Tk ρ M2 (fun k M3 => onLst M3 x fun a ds => lmSet M3 ds [k, d] fun _ ds' => DD.nx ρ (updM M3 a (.lst ds'))) fun C => DD.ex C ρ) fun C => DD.ex C ρ) fun C => DD.ex C ρ
theorem ds_storeX (pg : ∀ {to tb}, PE X o to → PE X b tb → PG X (.Subscript o b tpos) (gSub to tb rSetL)) (he : DE X wx e T) (ho : DE X wx o To) (hk : DR X wx b Ta) (hs : swapsWithSole [.Subscript o b tpos] e pos.line X.env = pure false := by rfl) (hw : swappedStores [.Subscript o b tpos] e X.env = pure none := by rfl) (h1 : (assignEach [.Subscript o b tpos] X.env).map (·.2) = [assign (.Subscript o b tpos) X.env] := by rfl) :
    DS X wx (.Assign [.Subscript o b tpos] e pos) (dStoreX To Ta T) := by
  obtain ⟨t, p, r⟩ := he
  obtain ⟨to, po, ro⟩ := ho
  obtain ⟨tk, pk, rk⟩ := hk
  refine ⟨_, ps_asg p (pg po pk) hs hw h1, fun W0 W m σ ρ M D DD R mk h k => r W0 W m σ ρ M _ _ _ R mk h (fun d v W' m' M' q le mk' hv => ?_) fun C W' m' M' q le mk' => k.ex C W' m' σ ρ M' (R.mono le) mk' q⟩
  refine ro W0 W' m' σ ρ M' _ _ _ (R.mono le) mk' q (fun dx x W1 m1 M1 q1 le1 mk1 hx => ?_) fun C W2 m2 M2 q2 le2 mk2 => k.ex C W2 m2 σ ρ M2 ((R.mono le).mono le2) mk2 q2
  refine rk W0 W1 m1 σ ρ M1 _ _ _ ((R.mono le).mono le1) mk1 q1 (fun kd kv W2 m2 M2 q2 le2 mk2 rk2 => ?_) fun C W2 m2 M2 q2 le2 mk2 => k.ex C W2 m2 σ ρ M2 (((R.mono le).mono le1).mono le2) mk2 q2
  obtain ⟨a, ds, rfl, z, q3⟩ := onLst_of q2
  cases hx
  have ob := mk2.ok a
  rw [z] at ob
  obtain ⟨vs, p1, p2⟩ := ob
  have hn := mk2.hn z
  obtain ⟨_, _, e, s3⟩ := rf_setL (B := bx X) W2 m2 M2 a vs ds _ _ (fun _ H' => D.nx σ H') _ mk2 ((cat_none hn).trans p1) p2 (.bor rk2 (.dat ((hv.mono le1.f).mono le2.f) .nil)) q3 fun d' v' ds' vs' q4 rv rvs =>
    cat_qm (P := D.nx σ) hn (k.nx W2 _ σ ρ _ (((R.mono le).mono le1).mono le2) (mk2.put (ob := .lst ds') hn ⟨vs', rfl, rvs⟩) q4)
  cases e
  exact s3
end
def oIdxD (x : D) (as : List D) (Q : D → Prop) : Prop := match x, as with
  | .lst ys, [z] => ∃ (j : Nat) (y : D), SeqAt.shaped (D.lst ys).py = true ∧ SeqAt.shaped z.py = true ∧ ys[j]? = some y ∧ PyData.eqv y.py z.py = true ∧ (∀ (k : Nat) (y' : D), k < j → ys[k]? = some y' → PyData.eqv y'.py z.py = false) ∧ Q (.int (j : Nat))
  | _, _ => False
def dLidxD (To : DTE) (R : DTA) : DTE := fun ρ M Q E => To ρ M (fun x M1 => isLD (drf M1 x) ∧ R ρ M1 (fun as M2 => oIdxD (drf M2 x) (as.map (drf M2)) fun d => Q d M2) E) E
section
variable {X : Cx} {wx : WX} {e o ce : Expr} {es : List Expr} {To : DTE} {R : DTA} {ms : List Bool}
end
end Z
namespace Z
open PySem PySem.Spec PyProof.Rows L2
open Evl (Ex)
section
variable {X : Cx} {wx : WX} {st : Stmt} {S : DTS}
def dGive (i : Nat) (S : DTS) : DTS := fun DD ρ M => match ga ρ i with
  | .own ds => ∀ p, M p = none → S DD (ρ.set i (.dat (.ref p))) (updM M p (.lst ds))
  | _ => S DD ρ M
end
def ltL (ns ms : List Int) : Bool := SeqAt.firstLt (fun j => decide (ns.getD j 0 = ms.getD j 0)) (fun j => decide (ns.getD j 0 < ms.getD j 0)) (decide (ns.length < ms.length)) (List.range (min ns.length ms.length))
def oLtA (x y : D) (Q : D → Prop) : Prop := match x, y with
  | .int i, .int j => Q (.bl (decide (i < j)))
  | .lst xs, .lst ys => ∃ ns ms : List Int, xs = ns.map .int ∧ ys = ms.map .int ∧ Q (.bl (ltL ns ms))
  | _, _ => False
section
variable {prog : Program} {w : World} {A : Around} {E : Value → Shared → Prop} {s : Shared}
end
section
variable {prog : Program} {w : World} {A : Around} {E : Value → Shared → Prop} {s : Shared}
end
def zip3D (xs ys zs : List D) : List D := (xs.zip (ys.zip zs)).map fun p => D.tup [p.1, p.2.1, p.2.2]
def dZip3 (R : DTA) : DTA := fun ρ M Q E => R ρ M (fun ds M' => match ds with | [.lst xs, .lst ys, .lst zs] => Q (zip3D xs ys zs) M' | _ => False) E
section
variable {X : Cx} {wx : WX} {e a b c : Expr} {pos : Pos}
end
def oMulW (x y : D) (Q : D → Prop) : Prop := match x, y with
  | .int i, .int j => CMulW i j ∧ Q (.int (i * j))
  | _, _ => False
end Z
namespace Z
open PySem PySem.Spec PyProof.Rows L2
open Evl (Ex)
section
variable {X : Cx} {wx : WX} {st : Stmt} {S : DTS}
end
def oListD (ds : List D) (Q : List D → Prop) : Prop := match ds with
  | [.dic _ ks] => Q (ks.map (·.1))
  | _ => False
def dListD (R : DTA) : DTA := fun ρ M Q E => R ρ M (fun ds M' => oListD (ds.map (drf M')) fun xs => Q xs M') E
section
variable {X : Cx} {wx : WX} {e : Expr} {pos : Pos}
end
end Z
namespace Z
open PySem PySem.Spec PyProof.Rows L2
open Evl (Ex)
section
variable {X : Cx} {wx : WX} {e o : Expr} {es : List Expr} {T : DTE} {pos pos' p apos tpos : Pos} {f x : Str} {cs : List Str}
def dMakeM (n : Str) (dv : List D) (sp : SpM) (R : DTA) : DTE := fun ρ M Q E => R ρ M (fun ds M1 => ∀ x, M1 x = none → sp (.ref x :: (ds ++ dv)) (updM M1 x (.ins n [])) (fun d M2 => d = .non ∧ Q (.ref x) M2) (fun C M2 => E C (delM M2 x))) E
def dAugF (i : Nat) (f : Str) (cs : List Str) (T : DTE) : DTS := fun DD ρ M => onIns M (ga ρ i) cs fun a n fs => match fs.lookup f with
  | some (.int x) => T ρ M (fun d M' => match d with | .int y => M' = M ∧ DD.nx ρ (updM M a (.ins n (putD f (.int (x + y)) fs))) | _ => False) fun C => DD.ex C ρ
  | _ => False
end
def dForSI (P : Mu → Prop) (G : DTG) (S : DTS) (DD : DEnds) (xs : List D) (ρ : List Ent) (M : Mu) : Prop := ∃ I : Nat → List Ent → Mu → Prop, I 0 ρ M ∧ (∀ i ρ' M', I i ρ' M' → P M') ∧
  (∀ i x, xs[i]? = some x → ∀ ρ' M', I i ρ' M' → G x ρ' fun ρ2 => S { DD with nx := I (i + 1), ct := I (i + 1), bk := DD.nx } ρ2 M') ∧ ∀ ρ' M', I xs.length ρ' M' → DD.nx ρ' M'
def dForES (R : DTA) (G : DTG) (S : DTS) : DTS := fun DD ρ M => R ρ M (fun ds M' => match ds with
  | [.ref a] => (match M' a with | some (.lst xs) => dForSI (fun M2 => M2 a = some (.lst xs)) G S DD (enumD xs) ρ M' | _ => False)
  | _ => False) fun C => DD.ex C ρ
section
variable {X : Cx} {wx : WX} {e : Expr} {R : DTA} {pos pos' p tpos : Pos} {G : DTG} {S : DTS} {body : List Stmt}
end
end Z
namespace Z
open PySem PySem.Spec PyProof.Rows L2
open Evl (Ex)
section
variable {prog : Program} {w : World} {A : Around} {E : Value → Shared → Prop} {s : Shared}
end
section
variable {prog : Program} {w : World} {A : Around} {E : Value → Shared → Prop} {s : Shared}
end
def dZipN (R : DTA) : DTA := fun ρ M Q E => R ρ M (fun ds M' => match ds with | [.lst xs, .tup ys] => Q (zipD xs ys) M' | _ => False) E
section
variable {X : Cx} {wx : WX} {e a b : Expr} {T Ta Tb : DTE} {pos : Pos}
end
end Z
namespace Z
open PySem PySem.Spec PyProof.Rows L2
open Evl (Ex)
def oIsB (x y : D) (Q : D → Prop) : Prop := match x, y with
  | .bl a, .bl b => Q (.bl (decide (a = b)))
  | _, _ => False
def oNotB (x y : D) (Q : D → Prop) : Prop := match x, y with
  | .bl a, .bl b => Q (.bl (!decide (a = b)))
  | _, _ => False
section
variable {X : Cx}
end
def dLcSI (a : Addr) (G : DTG) (U : DTT) (T : DTE) (ws : List Nat) (xs : List D) (ρ : List Ent) (M : Mu) (Q : List D → Mu → Prop) : Prop := ∃ I : Nat → List D → Mu → Prop, I 0 [] M ∧ (∀ i acc M', I i acc M' → M' a = some (.lst xs)) ∧
  (∀ i x, xs[i]? = some x → ∀ acc M', I i acc M' → acc.length < sizeLine ∧ G x (wipeE ρ ws) fun ρ2 => U ρ2 M' (fun b M2 => if b = true then T ρ2 M2 (fun d M3 => I (i + 1) (acc ++ [d]) M3) (fun _ _ => False) else I (i + 1) acc M2) (fun _ _ => False)) ∧ ∀ acc M', I xs.length acc M' → Q acc M'
def dLcS (T0 : DTE) (G : DTG) (U : DTT) (T : DTE) (ws : List Nat) : DTA := fun ρ M Q E => T0 ρ M (fun x M' => match x with
  | .ref a => (match M' a with | some (.lst xs) => dLcSI a G U T ws xs ρ M' Q | _ => False)
  | _ => False) E
section
variable {X : Cx} {wx : WX} {elt tg iter : Expr} {ifs : List Expr} {scope : Scope} {own : List (Str × Nat)} {pos : Pos} {T0 : DTE} {G : DTG} {U : DTT} {T : DTE}
theorem rf_lcS {B : Bx} {t0 : TE} {g : TG} {tt : TT} {te : TE} {ws : List Nat} (r0 : RfE B wx t0 T0) (rg : RfGk B g G ws) (rt : RfT B wx0 tt U) (re : RfE B wx0 te T) : RfN B wx (tLc (iAny B t0) g tt te ws) (dLcS T0 G U T ws) := by
  refine fun W0 W m σ ρ M Q Qd Ed R mk h1 h2 h3 => r0 W0 W m σ ρ M _ _ _ R mk h1 (fun dv v W1 m1 M1 q le mk1 hv => ?_) h3
  split at q
  · rename_i a
    cases hv
    split at q
    · rename_i xs hMa
      have sqAt : ∀ {W : Wd} {m : Hp} {M : Mu}, MOk B W M m → M a = some (.lst xs) → ∃ vs, SqL B.K (cat W.H m) a vs ∧ RpAll B W.F vs xs := fun {W m M} mk hM => by
        have o1 := mk.ok a
        rw [hM] at o1
        obtain ⟨vs, o2, o3⟩ := o1
        exact ⟨vs, SqL.of ((cat_none (mk.hn hM)).trans o2), o3⟩
      obtain ⟨vv, sq0, hr0⟩ := sqAt mk1 hMa
      refine .inl ⟨a, rfl, ⟨vv, sq0⟩, fun Dl hD => ?_⟩
      obtain ⟨I, i0, ip, istep, iend⟩ := q
      have hD1 := (cat_new hD).1
      have R1 := R.mono le
      refine ⟨fun i n H => ∃ W m M acc us, cat W.H m = H ∧ W1.le W ∧ MOk B W M m ∧ W.H Dl = some (.lst us) ∧ W.F Dl = none ∧ RpAll B W.F us acc ∧ I i acc M ∧ i + n = xs.length, ⟨xs.length, W1.lay Dl (.lst []) (W1.fnone hD1), m1, M1, [], [], cat_upd.symm, W1.le_lay hD1, mk1.lay hD, upd_same, W1.fnone hD1, .nil, i0, Nat.zero_add _⟩, ?_⟩
      rintro i n H ⟨W, m, M, acc, us, rfl, le1, mk, s1, s2, s3, s4, s5⟩
      obtain ⟨vs, sq, hvs⟩ := sqAt mk (ip i acc M s4)
      cases z : xs[i]? with
      | none =>
        have hl : xs.length ≤ i := List.getElem?_eq_none_iff.mp z
        have e : i = xs.length := by omega
        subst e
        exact .inl ⟨⟨vs, sq, by rw [hvs.length]; exact hl⟩, h2 acc Dl us W m M (iend acc M s4) (le.trans le1) mk (ex_none le.h hD1) s1 s2 s3⟩
      | some d =>
        obtain ⟨v, g1, g2⟩ := hvs.get z
        have hl := (List.getElem?_eq_some_iff.mp z).1
        refine .inr ⟨⟨vs, v, sq, g1⟩, fun H' => ∃ W m M acc us, cat W.H m = H' ∧ W1.le W ∧ MOk B W M m ∧ W.H Dl = some (.lst us) ∧ W.F Dl = none ∧ RpAll B W.F us acc ∧ I (i + 1) acc M, fun H' ⟨W, m, M, acc, us, e1, e2, e3, e4, e5, e6, e7⟩ => ⟨n - 1, by omega, W, m, M, acc, us, e1, e2, e3, e4, e5, e6, e7, by omega⟩, fun x H' y => ?_⟩
        obtain ⟨rfl, y⟩ := y
        have := y vs sq
        rw [g1] at this
        cases this
        obtain ⟨hz, body⟩ := istep i d z acc M s4
        have Rw : Rel B W0 W (wipe σ ws) (wipeE ρ ws) := (R1.mono le1).wipe ws
        refine rg W0 W m _ _ v d _ _ Rw g2 body fun σ2 ρ2 R2 w2 h' => ⟨w2.trans (by rw [wipe_twice]), ?_⟩
        refine rt W0 W m σ2 ρ2 M _ _ _ R2 mk h' (fun b W3 m3 M3 q3 le3 mk3 => ?_) fun _ _ _ _ z => z.elim
        have t1 := le3.h _ _ s1
        have t2 := le3.n _ (by rw [s1]; exact fun y => by cases y) s2
        cases b with
        | false => exact ⟨W3, m3, M3, acc, us, rfl, le1.trans le3, mk3, t1, t2, s3.mono le3.f, q3⟩
        | true =>
          refine re W0 W3 m3 σ2 ρ2 M3 _ _ _ (R2.mono le3) mk3 q3 (fun d4 v4 W4 m4 M4 q4 le4 mk4 r4 => ?_) fun _ _ _ _ z => z.elim
          have u1 := le4.h _ _ t1
          have u2 := le4.n _ (by rw [t1]; exact fun y => by cases y) t2
          have u3 := (s3.mono le3.f).mono le4.f
          refine ⟨us, cat_some u1, by rw [u3.length]; exact hz, ?_⟩
          exact ⟨W4.lay Dl (.lst (us ++ [v4])) u2, m4, M4, acc ++ [d4], us ++ [v4], cat_upd.symm, le_lay2 ((le1.trans le3).trans le4) hD1 u2, mk4.relay u1 u2, upd_same, u2, u3.append (.cons r4 .nil), q4⟩
    · exact q.elim
  · exact q.elim
theorem dn_lcS (hN : X.N.Nodup) (hi : DE X wx iter T0) (ok : BlkOk X.N X.env.scope scope own) (hg : ∀ z, DGk (blkF X scope z) tg G (own.map (·.2))) (ht : ∀ z, DTs (blkF X scope z) wx0 ifs U) (he : ∀ z, DE (blkF X scope z) wx0 elt T) (hc : X.calm = true := by rfl) (hs : ∀ x, foldedSetIterable iter X.env x = pure x := by intro _; rfl) :
    DN X wx (.ListComp elt [⟨tg, iter, ifs, 0⟩] scope pos) (dLcS T0 G U T (own.map (·.2))) := by
  obtain ⟨wi, p, ri⟩ := hi
  obtain ⟨g, pg, rg⟩ := DGk.unif (Xf := blkF X scope) (B := bx X) (fun _ => rfl) hg
  obtain ⟨tt, pt, rt⟩ := DTs.unif (Xf := blkF X scope) (B := bx X) (fun _ => rfl) ht
  obtain ⟨te, pe, re⟩ := DE.unif (Xf := blkF X scope) (B := bx X) (fun _ => rfl) he
  exact ⟨_, pe_lc hc hN (pi_any p) ok (fun s H C cl fp => pg (s, H, C, cl, fp)) (fun s H C cl fp => pt (s, H, C, cl, fp)) (fun s H C cl fp => pe (s, H, C, cl, fp)) hs, rf_lcS ri rg rt re⟩
end
def dAugM (i : Nat) (T : DTE) : DTS := fun DD ρ M => match ga ρ i with
  | .dat (.int x) => T ρ M (fun d M' => match d with | .int y => CMulW x y ∧ DD.nx (ρ.set i (.dat (.int (x * y)))) M' | _ => False) fun C => DD.ex C ρ
  | _ => False
section
variable {X : Cx} {wx : WX} {e : Expr} {T : DTE} {pos : Pos}
end
end Z
namespace Z
open PySem PySem.Calls PySem.Spec PyProof.Rows L2 PySem.W
section
variable {prog : Program} {w : World} {A : Around} {a kS : Addr} {vs : List Value} {e1 : Nat} {kz : List PyData}
end
theorem Env0.at {X : Cx} {pins : List (Addr × Obj)} {σ : L2.St} {H : Hp} {s : Shared} (I : Inv X pins σ H s) : Env0 X.prog X.w X.K X.mg X.base X.A.in1.in1 X.stack s H := I.env0.in1.in1
section
variable {X : Cx}
end
structure KeysFit (xs : List D) (key : D → D) : Prop where
  al : AllAlike (xs.map fun x => (key x).py)
  so : Sortable (xs.map fun x => (key x).py)
  cl : ∀ x ∈ xs, PyData.canLay0 (key x).py = true
  dp : ∀ x ∈ xs, (key x).py.depth ≤ 60
def dSortK (sp : SpM) (T : DTE) : DTA := fun ρ M Q E => T ρ M (fun d M1 => ∃ (xs : List D) (key : D → D), drf M1 d = .lst xs ∧ (∀ x ∈ xs, sp [x] M1 (fun d M' => d = key x ∧ M' = M1) fun _ _ => False) ∧ KeysFit xs key ∧ Q (xs.mergeSort (dataLe false fun x => (key x).py)) M1) E
section
variable {X : Cx} {wx : WX} {e : Expr} {T : DTE} {pos p p2 p3 : Pos}
end
def lmReverse : LM := fun _ ds as Q => match as with | [] => Q .non ds.reverse | _ => False
def oCntD (x : D) (as : List D) (Q : D → Prop) : Prop := match x, as with
  | .lst ys, [z] => SeqAt.shaped (D.lst ys).py = true ∧ SeqAt.shaped z.py = true ∧ Q (.int (ys.countP fun y => PyData.eqv y.py z.py : Nat))
  | _, _ => False
def dLcntD (To : DTE) (R : DTA) : DTE := fun ρ M Q E => To ρ M (fun x M1 => isLD (drf M1 x) ∧ R ρ M1 (fun as M2 => oCntD (drf M2 x) (as.map (drf M2)) fun d => Q d M2) E) E
section
variable {X : Cx} {wx : WX} {e o ce : Expr} {es : List Expr} {To : DTE} {R : DTA} {ms : List Bool}
end
def rngV (n : Nat) : List D := (List.range n).map fun i => D.int ((n : Int) - 1 - (i : Nat))
def dRevR (T : DTE) : DTA := fun ρ M Q E => T ρ M (fun d M' => match d with | .int j => 0 ≤ j ∧ j < 2 ^ 62 ∧ Q (rngV j.toNat) M' | _ => False) E
section
variable {X : Cx} {wx : WX} {tg e : Expr} {T : DTE} {p p2 pos pos2 : Pos}
end
section
variable {X : Cx} {wx : WX} {e tg : Expr} {T : DTE} {pos' : Pos} {G : DTG} {S : DTS} {body : List Stmt}
end
end Z
namespace Z
open PySem L2
section
variable {M : Mu} {Q : D → Prop} {i j : Int} {x y : Str} {xs ys : List D} {a b : Bool} {n : Str} {fs : List (Str × D)} {ks : List (D × D)} {s : String}
theorem drf_int : drf M (.int i) = (.int i) := rfl
theorem drf_str : drf M (.str x) = (.str x) := rfl
theorem drf_bl : drf M (.bl a) = (.bl a) := rfl
theorem drf_non : drf M .non = .non := rfl
theorem drf_lst : drf M (.lst xs) = (.lst xs) := rfl
theorem drf_tup : drf M (.tup xs) = (.tup xs) := rfl
theorem drf_obj : drf M (.obj n fs) = (.obj n fs) := rfl
theorem drf_dic : drf M (.dic a ks) = (.dic a ks) := rfl
theorem drf_cls : drf M (.cls n) = (.cls n) := rfl
theorem drf_exc : drf M (.exc n) = (.exc n) := rfl
theorem drf_ty : drf M (.ty s) = (.ty s) := rfl
theorem ofS_inj {s t : String} : (Str.ofString s = Str.ofString t) = (s = t) := propext ⟨fun h => by
  have e := congrArg (fun x : Str => x.cps.toList) h
  have e1 : s.toList.map Char.toNat = t.toList.map Char.toNat := (TL.tl_ofString s).symm.trans (e.trans (TL.tl_ofString t))
  have inj : ∀ {a b : List Char}, a.map Char.toNat = b.map Char.toNat → a = b := fun {a b} h => by
    induction a generalizing b with
    | nil => cases b with | nil => rfl | cons _ _ => cases h
    | cons x a ih => cases b with
      | nil => cases h
      | cons y b =>
        rw [List.map_cons, List.map_cons] at h
        injection h with h1 h2
        rw [ih h2]
        congr 1
        exact Char.ext (UInt32.toNat_inj.mp h1)
  exact String.toList_inj.mp (inj e1), fun h => by rw [h]⟩
theorem mem_ofS {s t : String} {l : List Str} : (Str.ofString s ∈ Str.ofString t :: l) = (s = t ∨ Str.ofString s ∈ l) := by rw [List.mem_cons, ofS_inj]
theorem mem_ofS0 {s : String} : (Str.ofString s ∈ ([] : List Str)) = False := by simp
theorem putD_nil {f : Str} {d : D} : putD f d [] = [(f, d)] := rfl
theorem putD_cons {f g : Str} {d x : D} {r : List (Str × D)} : putD f d ((g, x) :: r) = if g = f then (g, d) :: r else (g, x) :: putD f d r := rfl
variable {adr : Addr} {tt : Bool}
theorem drf_ref : drf M (.ref adr) = drfO adr (M adr) := rfl
theorem drfO_dic : drfO adr (some (.dic tt ks)) = .dic tt ks := rfl
theorem drfO_lst : drfO adr (some (.lst xs)) = .lst xs := rfl
theorem drfO_ins : drfO adr (some (.ins n fs)) = .obj n fs := rfl
theorem drfO_non : drfO adr none = .ref adr := rfl
theorem oLen_d : oLen [.dic tt ks] Q = Q (.int ks.length) := rfl
theorem oIn_d : oIn (.str x) (.dic tt ks) Q = (kOkB tt (.str x) = true ∧ Q (.bl (getK ks (.str x)).isSome)) := rfl
theorem oNotIn_d : oNotIn (.str x) (.dic tt ks) Q = (kOkB tt (.str x) = true ∧ Q (.bl (!(getK ks (.str x)).isSome))) := rfl
theorem oIn_dt : oIn (.tup xs) (.dic tt ks) Q = (kOkB tt (.tup xs) = true ∧ Q (.bl (getK ks (.tup xs)).isSome)) := rfl
theorem oNotIn_dt : oNotIn (.tup xs) (.dic tt ks) Q = (kOkB tt (.tup xs) = true ∧ Q (.bl (!(getK ks (.tup xs)).isSome))) := rfl
theorem kOkB_s : kOkB false (.str x) = true := rfl
theorem kOkB_i : kOkB false (.int i) = true := rfl
theorem oAdd_i : oAdd (.int i) (.int j) Q = Q (.int (i + j)) := rfl
theorem oAdd_s : oAdd (.str x) (.str y) Q = (x.length + y.length ≤ sizeLine ∧ Q (.str (x ++ y))) := rfl
theorem oAdd_t : oAdd (.tup xs) (.tup ys) Q = (xs.length + ys.length ≤ sizeLine ∧ Q (.tup (xs ++ ys))) := rfl
theorem oAdd_l : oAdd (.lst xs) (.lst ys) Q = (xs.length + ys.length ≤ sizeLine ∧ Q (.lst (xs ++ ys))) := rfl
theorem oSub_i : oSub (.int i) (.int j) Q = Q (.int (i - j)) := rfl
theorem oMul_i : oMul (.int i) (.int j) Q = (Sm i ∧ Sm j ∧ Q (.int (i * j))) := rfl
theorem oMulW_i : oMulW (.int i) (.int j) Q = (CMulW i j ∧ Q (.int (i * j))) := rfl
theorem oMulA_i : oMulA (.int i) (.int j) Q = (Sm i ∧ Sm j ∧ Q (.int (i * j))) := rfl
theorem oMulA_s : oMulA (.str x) (.int j) Q = (0 ≤ j ∧ j < 2 ^ 30 ∧ x.length * j.toNat ≤ sizeLine ∧ Q (.str (repS x j.toNat))) := rfl
theorem oFdiv_i : oFdiv (.int i) (.int j) Q = (j ≠ 0 ∧ Sm j ∧ Q (.int (i.fdiv j))) := rfl
theorem oMod_i : oMod (.int i) (.int j) Q = (j ≠ 0 ∧ Q (.int (i.fmod j))) := rfl
theorem oPow_i : oPow (.int i) (.int j) Q = (CPow i j ∧ Q (.int (i ^ j.toNat))) := rfl
theorem oLt_i : oLt (.int i) (.int j) Q = Q (.bl (decide (i < j))) := rfl
theorem oLtA_i : oLtA (.int i) (.int j) Q = Q (.bl (decide (i < j))) := rfl
theorem oLe_i : oLe (.int i) (.int j) Q = Q (.bl (decide (i ≤ j))) := rfl
theorem oGt_i : oGt (.int i) (.int j) Q = Q (.bl (decide (j < i))) := rfl
theorem oGe_i : oGe (.int i) (.int j) Q = Q (.bl (decide (j ≤ i))) := rfl
theorem oEq_i : oEq (.int i) (.int j) Q = Q (.bl (decide (i = j))) := rfl
theorem oEq_s : oEq (.str x) (.str y) Q = Q (.bl (decide (x = y))) := rfl
theorem oEq_b : oEq (.bl a) (.bl b) Q = Q (.bl (decide (a = b))) := rfl
theorem oEq_nn : oEq .non .non Q = Q (.bl (true)) := rfl
theorem oEq_ni : oEq .non (.int i) Q = Q (.bl (false)) := rfl
theorem oEq_in : oEq (.int i) .non Q = Q (.bl (false)) := rfl
theorem oEq_ns : oEq .non (.str x) Q = Q (.bl (false)) := rfl
theorem oEq_sn : oEq (.str x) .non Q = Q (.bl (false)) := rfl
theorem oNe_i : oNe (.int i) (.int j) Q = Q (.bl (!decide (i = j))) := rfl
theorem oNe_s : oNe (.str x) (.str y) Q = Q (.bl (!decide (x = y))) := rfl
theorem oNe_b : oNe (.bl a) (.bl b) Q = Q (.bl (!decide (a = b))) := rfl
theorem oNe_nn : oNe .non .non Q = Q (.bl (!true)) := rfl
theorem oNe_ni : oNe .non (.int i) Q = Q (.bl (!false)) := rfl
theorem oNe_in : oNe (.int i) .non Q = Q (.bl (!false)) := rfl
theorem oNe_ns : oNe .non (.str x) Q = Q (.bl (!false)) := rfl
theorem oNe_sn : oNe (.str x) .non Q = Q (.bl (!false)) := rfl
theorem oIsN_ {d : D} : oIsN d .non Q = Q (.bl d.isNon) := propext ⟨fun h => h.2, fun h => ⟨rfl, h⟩⟩
theorem oNotN_ {d : D} : oNotN d .non Q = Q (.bl (!d.isNon)) := propext ⟨fun h => h.2, fun h => ⟨rfl, h⟩⟩
theorem oIsB_ : oIsB (.bl a) (.bl b) Q = Q (.bl (decide (a = b))) := rfl
theorem oNotB_ : oNotB (.bl a) (.bl b) Q = Q (.bl (!decide (a = b))) := rfl
theorem isNon_int : D.isNon (.int i) = false := rfl
theorem isNon_str : D.isNon (.str x) = false := rfl
theorem isNon_bl : D.isNon (.bl a) = false := rfl
theorem isNon_non : D.isNon .non = true := rfl
theorem isNon_lst : D.isNon (.lst xs) = false := rfl
theorem isNon_tup : D.isNon (.tup xs) = false := rfl
theorem isNon_obj : D.isNon (.obj n fs) = false := rfl
theorem isNon_exc : D.isNon (.exc n) = false := rfl
theorem isNon_dic : D.isNon (.dic a ks) = false := rfl
theorem oLen_s : oLen [.str x] Q = (x.length ≤ sizeLine ∧ Q (.int x.length)) := rfl
theorem oLen_l : oLen [.lst xs] Q = Q (.int xs.length) := rfl
theorem oLen_t : oLen [.tup xs] Q = Q (.int xs.length) := rfl
theorem oAbs_ : oAbs [.int i] Q = Q (.int (if i < 0 then -i else i)) := rfl
theorem oMax2_ : oMax2 [.int i, .int j] Q = Q (.int (if j > i then j else i)) := rfl
theorem oMin2_ : oMin2 [.int i, .int j] Q = Q (.int (if j < i then j else i)) := rfl
theorem oMinT_ : oMinT [.tup [.int i, .int j]] Q = Q (.int (if j < i then j else i)) := rfl
theorem oMaxT_ : oMaxT [.tup [.int i, .int j]] Q = Q (.int (if j > i then j else i)) := rfl
theorem oInt1_i : oInt1 [.int i] Q = Q (.int i) := rfl
theorem oInt1_b : oInt1 [.bl a] Q = Q (.int (if a then 1 else 0)) := rfl
theorem oInt1_s : oInt1 [.str x] Q = (∃ n, PySem.intText? x = some n ∧ x.length ≤ 640 ∧ Q (.int n)) := rfl
theorem oStr1_ : oStr1 [.int i] Q = (i.natAbs.log2 < 1920 ∧ Q (.str (toString i))) := rfl
theorem oTuple1_l : oTuple1 [.lst xs] Q = Q (.tup xs) := rfl
theorem oTuple1_t : oTuple1 [.tup xs] Q = Q (.tup xs) := rfl
variable {QL : List D → Prop} {QB : Bool → Prop} {PS : Str → Prop} {oi oj : Option Int}
theorem oList1_l : oList1 [.lst xs] QL = QL xs := rfl
theorem oList1_t : oList1 [.tup xs] QL = QL xs := rfl
theorem oListD_d : oListD [.dic a ks] QL = QL (ks.map (·.1)) := rfl
theorem oCat_l : oCat (.lst xs) (.lst ys) QL = (xs.length + ys.length ≤ sizeLine ∧ QL (xs ++ ys)) := rfl
theorem truD_n : truD .non QB = QB false := rfl
theorem truD_b : truD (.bl a) QB = QB a := rfl
theorem truD_i : truD (.int i) QB = QB (i != 0) := rfl
theorem truD_s : truD (.str x) QB = (x.length ≤ sizeLine ∧ QB ((x.length : Int) != 0)) := rfl
theorem truD_l : truD (.lst xs) QB = QB (!xs.isEmpty) := rfl
theorem truD_t : truD (.tup xs) QB = QB (!xs.isEmpty) := rfl
theorem onStr_s : onStr (.str x) PS = PS x := rfl
theorem soStarts_ : soStarts x [.str y] Q = (True ∧ Q (.bl (Txt.startswith x y))) := rfl
theorem soUpper_ : soUpper x [] Q = (x.length ≤ 5592405 ∧ Q (.str (Txt.upper x))) := rfl
theorem soLower_ : soLower x [] Q = (x.length ≤ 5592405 ∧ Q (.str (Txt.lower x))) := rfl
theorem soIsupper_ : soIsupper x [] Q = (True ∧ Q (.bl (Txt.isupper x))) := rfl
theorem soFind_ : soFind x [.str y] Q = (True ∧ Q (.int (Txt.find x y))) := rfl
theorem soStrip_ : soStrip x [.str y] Q = (x.length ≤ sizeLine ∧ Q (.str (Txt.stripChars x y))) := rfl
theorem soPart_ : soPart x [.str y] Q = ((y.length == 0) = false ∧ x.length ≤ sizeLine ∧ Q (.tup [.str (Txt.partition x y).1, .str (Txt.partition x y).2.1, .str (Txt.partition x y).2.2])) := rfl
theorem soSplit_ : soSplit x [.str y] Q = ((y.length == 0) = false ∧ x.length + 2 ≤ sizeLine ∧ Q (.lst ((Txt.split x y).map .str))) := rfl
theorem soJoin_l : soJoin x [.lst xs] Q = joinD x xs Q := rfl
theorem soJoin_t : soJoin x [.tup xs] Q = joinD x xs Q := rfl
theorem oSlL_l : oSlL (.lst xs) oi oj QL = QL (cutD xs oi oj) := rfl
theorem oSlS_l : oSlS (.lst xs) oi oj Q = Q (.lst (cutD xs oi oj)) := rfl
theorem oSlS_t : oSlS (.tup xs) oi oj Q = Q (.tup (cutD xs oi oj)) := rfl
theorem oSlS_s : oSlS (.str x) oi oj Q = (x.length ≤ sizeLine ∧ Q (.str (cutS x oi oj))) := rfl
theorem isi_int_int : oIsi "int" [(.int i), .ty "int"] Q = Q (.bl true) := by
  have e : isD "int" (.int i) = true := rfl
  show ("int" = "int" ∧ (tyS (.int i)).isSome = true ∧ Q (.bl (isD "int" (.int i)))) = _
  rw [e]; simp [tyS]
theorem isi_int_str : oIsi "int" [(.str x), .ty "int"] Q = Q (.bl false) := by
  have e : isD "int" (.str x) = false := rfl
  show ("int" = "int" ∧ (tyS (.str x)).isSome = true ∧ Q (.bl (isD "int" (.str x)))) = _
  rw [e]; simp [tyS]
theorem isi_int_bool : oIsi "int" [(.bl a), .ty "int"] Q = Q (.bl true) := by
  have e : isD "int" (.bl a) = true := rfl
  show ("int" = "int" ∧ (tyS (.bl a)).isSome = true ∧ Q (.bl (isD "int" (.bl a)))) = _
  rw [e]; simp [tyS]
theorem isi_int_NoneType : oIsi "int" [.non, .ty "int"] Q = Q (.bl false) := by
  have e : isD "int" .non = false := rfl
  show ("int" = "int" ∧ (tyS .non).isSome = true ∧ Q (.bl (isD "int" .non))) = _
  rw [e]; simp [tyS]
theorem isi_int_list : oIsi "int" [(.lst xs), .ty "int"] Q = Q (.bl false) := by
  have e : isD "int" (.lst xs) = false := rfl
  show ("int" = "int" ∧ (tyS (.lst xs)).isSome = true ∧ Q (.bl (isD "int" (.lst xs)))) = _
  rw [e]; simp [tyS]
theorem isi_int_tuple : oIsi "int" [(.tup xs), .ty "int"] Q = Q (.bl false) := by
  have e : isD "int" (.tup xs) = false := rfl
  show ("int" = "int" ∧ (tyS (.tup xs)).isSome = true ∧ Q (.bl (isD "int" (.tup xs)))) = _
  rw [e]; simp [tyS]
theorem isi_bool_int : oIsi "bool" [(.int i), .ty "bool"] Q = Q (.bl false) := by
  have e : isD "bool" (.int i) = false := rfl
  show ("bool" = "bool" ∧ (tyS (.int i)).isSome = true ∧ Q (.bl (isD "bool" (.int i)))) = _
  rw [e]; simp [tyS]
theorem isi_bool_str : oIsi "bool" [(.str x), .ty "bool"] Q = Q (.bl false) := by
  have e : isD "bool" (.str x) = false := rfl
  show ("bool" = "bool" ∧ (tyS (.str x)).isSome = true ∧ Q (.bl (isD "bool" (.str x)))) = _
  rw [e]; simp [tyS]
theorem isi_bool_bool : oIsi "bool" [(.bl a), .ty "bool"] Q = Q (.bl true) := by
  have e : isD "bool" (.bl a) = true := rfl
  show ("bool" = "bool" ∧ (tyS (.bl a)).isSome = true ∧ Q (.bl (isD "bool" (.bl a)))) = _
  rw [e]; simp [tyS]
theorem isi_bool_NoneType : oIsi "bool" [.non, .ty "bool"] Q = Q (.bl false) := by
  have e : isD "bool" .non = false := rfl
  show ("bool" = "bool" ∧ (tyS .non).isSome = true ∧ Q (.bl (isD "bool" .non))) = _
  rw [e]; simp [tyS]
theorem isi_bool_list : oIsi "bool" [(.lst xs), .ty "bool"] Q = Q (.bl false) := by
  have e : isD "bool" (.lst xs) = false := rfl
  show ("bool" = "bool" ∧ (tyS (.lst xs)).isSome = true ∧ Q (.bl (isD "bool" (.lst xs)))) = _
  rw [e]; simp [tyS]
theorem isi_bool_tuple : oIsi "bool" [(.tup xs), .ty "bool"] Q = Q (.bl false) := by
  have e : isD "bool" (.tup xs) = false := rfl
  show ("bool" = "bool" ∧ (tyS (.tup xs)).isSome = true ∧ Q (.bl (isD "bool" (.tup xs)))) = _
  rw [e]; simp [tyS]
theorem isi_tuple_int : oIsi "tuple" [(.int i), .ty "tuple"] Q = Q (.bl false) := by
  have e : isD "tuple" (.int i) = false := rfl
  show ("tuple" = "tuple" ∧ (tyS (.int i)).isSome = true ∧ Q (.bl (isD "tuple" (.int i)))) = _
  rw [e]; simp [tyS]
theorem isi_tuple_str : oIsi "tuple" [(.str x), .ty "tuple"] Q = Q (.bl false) := by
  have e : isD "tuple" (.str x) = false := rfl
  show ("tuple" = "tuple" ∧ (tyS (.str x)).isSome = true ∧ Q (.bl (isD "tuple" (.str x)))) = _
  rw [e]; simp [tyS]
theorem isi_tuple_bool : oIsi "tuple" [(.bl a), .ty "tuple"] Q = Q (.bl false) := by
  have e : isD "tuple" (.bl a) = false := rfl
  show ("tuple" = "tuple" ∧ (tyS (.bl a)).isSome = true ∧ Q (.bl (isD "tuple" (.bl a)))) = _
  rw [e]; simp [tyS]
theorem isi_tuple_NoneType : oIsi "tuple" [.non, .ty "tuple"] Q = Q (.bl false) := by
  have e : isD "tuple" .non = false := rfl
  show ("tuple" = "tuple" ∧ (tyS .non).isSome = true ∧ Q (.bl (isD "tuple" .non))) = _
  rw [e]; simp [tyS]
theorem isi_tuple_list : oIsi "tuple" [(.lst xs), .ty "tuple"] Q = Q (.bl false) := by
  have e : isD "tuple" (.lst xs) = false := rfl
  show ("tuple" = "tuple" ∧ (tyS (.lst xs)).isSome = true ∧ Q (.bl (isD "tuple" (.lst xs)))) = _
  rw [e]; simp [tyS]
theorem isi_tuple_tuple : oIsi "tuple" [(.tup xs), .ty "tuple"] Q = Q (.bl true) := by
  have e : isD "tuple" (.tup xs) = true := rfl
  show ("tuple" = "tuple" ∧ (tyS (.tup xs)).isSome = true ∧ Q (.bl (isD "tuple" (.tup xs)))) = _
  rw [e]; simp [tyS]
theorem isi_str_int : oIsi "str" [(.int i), .ty "str"] Q = Q (.bl false) := by
  have e : isD "str" (.int i) = false := rfl
  show ("str" = "str" ∧ (tyS (.int i)).isSome = true ∧ Q (.bl (isD "str" (.int i)))) = _
  rw [e]; simp [tyS]
theorem isi_str_str : oIsi "str" [(.str x), .ty "str"] Q = Q (.bl true) := by
  have e : isD "str" (.str x) = true := rfl
  show ("str" = "str" ∧ (tyS (.str x)).isSome = true ∧ Q (.bl (isD "str" (.str x)))) = _
  rw [e]; simp [tyS]
theorem isi_str_bool : oIsi "str" [(.bl a), .ty "str"] Q = Q (.bl false) := by
  have e : isD "str" (.bl a) = false := rfl
  show ("str" = "str" ∧ (tyS (.bl a)).isSome = true ∧ Q (.bl (isD "str" (.bl a)))) = _
  rw [e]; simp [tyS]
theorem isi_str_NoneType : oIsi "str" [.non, .ty "str"] Q = Q (.bl false) := by
  have e : isD "str" .non = false := rfl
  show ("str" = "str" ∧ (tyS .non).isSome = true ∧ Q (.bl (isD "str" .non))) = _
  rw [e]; simp [tyS]
theorem isi_str_list : oIsi "str" [(.lst xs), .ty "str"] Q = Q (.bl false) := by
  have e : isD "str" (.lst xs) = false := rfl
  show ("str" = "str" ∧ (tyS (.lst xs)).isSome = true ∧ Q (.bl (isD "str" (.lst xs)))) = _
  rw [e]; simp [tyS]
theorem isi_str_tuple : oIsi "str" [(.tup xs), .ty "str"] Q = Q (.bl false) := by
  have e : isD "str" (.tup xs) = false := rfl
  show ("str" = "str" ∧ (tyS (.tup xs)).isSome = true ∧ Q (.bl (isD "str" (.tup xs)))) = _
  rw [e]; simp [tyS]
theorem isi_list_int : oIsi "list" [(.int i), .ty "list"] Q = Q (.bl false) := by
  have e : isD "list" (.int i) = false := rfl
  show ("list" = "list" ∧ (tyS (.int i)).isSome = true ∧ Q (.bl (isD "list" (.int i)))) = _
  rw [e]; simp [tyS]
theorem isi_list_str : oIsi "list" [(.str x), .ty "list"] Q = Q (.bl false) := by
  have e : isD "list" (.str x) = false := rfl
  show ("list" = "list" ∧ (tyS (.str x)).isSome = true ∧ Q (.bl (isD "list" (.str x)))) = _
  rw [e]; simp [tyS]
theorem isi_list_bool : oIsi "list" [(.bl a), .ty "list"] Q = Q (.bl false) := by
  have e : isD "list" (.bl a) = false := rfl
  show ("list" = "list" ∧ (tyS (.bl a)).isSome = true ∧ Q (.bl (isD "list" (.bl a)))) = _
  rw [e]; simp [tyS]
theorem isi_list_NoneType : oIsi "list" [.non, .ty "list"] Q = Q (.bl false) := by
  have e : isD "list" .non = false := rfl
  show ("list" = "list" ∧ (tyS .non).isSome = true ∧ Q (.bl (isD "list" .non))) = _
  rw [e]; simp [tyS]
theorem isi_list_list : oIsi "list" [(.lst xs), .ty "list"] Q = Q (.bl true) := by
  have e : isD "list" (.lst xs) = true := rfl
  show ("list" = "list" ∧ (tyS (.lst xs)).isSome = true ∧ Q (.bl (isD "list" (.lst xs)))) = _
  rw [e]; simp [tyS]
theorem isi_list_tuple : oIsi "list" [(.tup xs), .ty "list"] Q = Q (.bl false) := by
  have e : isD "list" (.tup xs) = false := rfl
  show ("list" = "list" ∧ (tyS (.tup xs)).isSome = true ∧ Q (.bl (isD "list" (.tup xs)))) = _
  rw [e]; simp [tyS]
theorem atI_at {α : Type} {xs : List α} {i : Int} {n : Nat} {a : α} (e : i = (n : Int)) (h : xs[n]? = some a) : atI xs i = some a := by
  have hl := (List.getElem?_eq_some_iff.mp h).1
  unfold atI ixN
  subst e
  rw [if_pos (by omega), if_pos (by omega)]
  exact h
theorem ix_at {xs : List D} {i : Int} {n : Nat} {a : D} (e : i = (n : Int)) (h : xs[n]? = some a) {Q : D → Prop} : oIx (.tup xs) (.int i) Q = Q a ∧ oIx (.lst xs) (.int i) Q = Q a := by
  have h := atI_at e h
  have e : (∃ d, atI xs i = some d ∧ Q d) = Q a := by rw [h]; exact propext ⟨fun ⟨d, e, q⟩ => by cases e; exact q, fun q => ⟨a, rfl, q⟩⟩
  exact ⟨e, e⟩
theorem ix_lt {xs : List D} {i : Int} (h0 : 0 ≤ i) (h1 : i < xs.length) : oIx (.lst xs) (.int i) Q = Q (xs.getD i.toNat .non) ∧ oIx (.tup xs) (.int i) Q = Q (xs.getD i.toNat .non) := by
  have h : xs[i.toNat]? = some (xs.getD i.toNat .non) := by rw [List.getD_eq_getElem?_getD, List.getElem?_eq_getElem (by omega)]; rfl
  have := ix_at (Q := Q) (show i = (i.toNat : Int) by omega) h
  exact ⟨this.2, this.1⟩
variable {d0 d1 d2 d3 d4 d5 : D}
theorem oIx_t0 : oIx (.tup (d0 :: xs)) (.int 0) Q = Q d0 := (ix_at (n := 0) rfl rfl).1
theorem oIx_l0 : oIx (.lst (d0 :: xs)) (.int 0) Q = Q d0 := (ix_at (n := 0) rfl rfl).2
theorem oIx_t1 : oIx (.tup (d0 :: d1 :: xs)) (.int 1) Q = Q d1 := (ix_at (n := 1) rfl rfl).1
theorem oIx_l1 : oIx (.lst (d0 :: d1 :: xs)) (.int 1) Q = Q d1 := (ix_at (n := 1) rfl rfl).2
theorem oIx_t2 : oIx (.tup (d0 :: d1 :: d2 :: xs)) (.int 2) Q = Q d2 := (ix_at (n := 2) rfl rfl).1
theorem oIx_l2 : oIx (.lst (d0 :: d1 :: d2 :: xs)) (.int 2) Q = Q d2 := (ix_at (n := 2) rfl rfl).2
theorem oIx_t3 : oIx (.tup (d0 :: d1 :: d2 :: d3 :: xs)) (.int 3) Q = Q d3 := (ix_at (n := 3) rfl rfl).1
theorem oIx_l3 : oIx (.lst (d0 :: d1 :: d2 :: d3 :: xs)) (.int 3) Q = Q d3 := (ix_at (n := 3) rfl rfl).2
theorem oIx_t4 : oIx (.tup (d0 :: d1 :: d2 :: d3 :: d4 :: xs)) (.int 4) Q = Q d4 := (ix_at (n := 4) rfl rfl).1
theorem oIx_l4 : oIx (.lst (d0 :: d1 :: d2 :: d3 :: d4 :: xs)) (.int 4) Q = Q d4 := (ix_at (n := 4) rfl rfl).2
theorem oIx_t5 : oIx (.tup (d0 :: d1 :: d2 :: d3 :: d4 :: d5 :: xs)) (.int 5) Q = Q d5 := (ix_at (n := 5) rfl rfl).1
theorem oIx_l5 : oIx (.lst (d0 :: d1 :: d2 :: d3 :: d4 :: d5 :: xs)) (.int 5) Q = Q d5 := (ix_at (n := 5) rfl rfl).2
theorem oIx_f0 {p : Rat} : oIx (fD p) (.int 0) Q = Q (.int p.num) := oIx_t0
theorem oIx_f1 {p : Rat} : oIx (fD p) (.int 1) Q = Q (.int p.den) := oIx_t1
theorem drf_fD {p : Rat} : drf M (fD p) = fD p := rfl
theorem oLen_f {p : Rat} : oLen [fD p] Q = Q (.int 2) := rfl
theorem isi_tuple_f {p : Rat} : oIsi "tuple" [fD p, .ty "tuple"] Q = Q (.bl true) := isi_tuple_tuple
theorem isi_int_f {p : Rat} : oIsi "int" [fD p, .ty "int"] Q = Q (.bl false) := isi_int_tuple
theorem eq_fD {p q : Rat} : oEq (fD p) (fD q) Q = Q (.bl (decide (p = q))) := by
  have e : PyData.eqv (fD p).py (fD q).py = decide (p = q) := by
    show (p.num == q.num && ((p.den : Int) == q.den && true)) = decide (p = q)
    rw [Bool.and_true, Bool.eq_iff_iff]
    simp only [Bool.and_eq_true, beq_iff_eq, decide_eq_true_eq]
    constructor
    · rintro ⟨h1, h2⟩; exact Rat.ext h1 (by omega)
    · rintro rfl; exact ⟨rfl, rfl⟩
  show (shp (fD p).py = true ∧ shp (fD q).py = true ∧ Q (.bl (PyData.eqv (fD p).py (fD q).py))) = _
  rw [e, show shp (fD p).py = true from rfl, show shp (fD q).py = true from rfl]
  simp
theorem ne_fD {p q : Rat} : oNe (fD p) (fD q) Q = Q (.bl (!decide (p = q))) := eq_fD (Q := fun d => match d with | .bl b => Q (.bl (!b)) | d => Q d)
end
theorem getD_map_int (xs : List Int) (n : Nat) (h : n < xs.length) : (xs.map D.int).getD n .non = .int (xs.getD n 0) := by
  simp [List.getD_eq_getElem?_getD, h]
theorem sp2i {P : Int → Int → Prop} {ds : List D} (h : match ds with | [.int a, .int b] => P a b | _ => False) : ∃ a b, ds = [.int a, .int b] ∧ P a b := by
  split at h
  · exact ⟨_, _, rfl, h⟩
  · exact h.elim
end Z
namespace Z
open PySem L2
local macro_rules | `(tactic| simp! [$xs,*]) => `(tactic| simp only [$xs,*, ↓dSeq, ↓dAsg, ↓dOp, ↓dVar, ↓dVarR, ↓dC, ↓dCall, ↓dCons, ↓dNil, ↓dIf, ↓dRet, ↓dRetN, ↓dTup, ↓dTst, ↓dNeg, ↓dNext, ↓dCB, ↓dLstOf, ↓dLst, ↓dCat, ↓dSlL, ↓dSlS, ↓dONone, ↓dOSome, ↓dList1, ↓dChain, ↓dChain3, ↓dAndT, ↓dOrT, ↓dNotT, ↓dAndV, ↓dOrV, ↓dNotV, ↓dIfE, ↓dTru, ↓dOwn, ↓dAsgG, ↓dPar, ↓dDrop, ↓dAugI, ↓dBreak, ↓dCont, ↓dgName, ↓dgNil, ↓dgCons, ↓dgTup, ↓dFrz, ↓frzE, ↓dItA, ↓dItB, ↓dRng1, ↓dRng2, ↓dEnum, ↓dFor, ↓dSM, ↓dSM0, ↓dRepN, ↓dLc, ↓dYes, ↓wipeE, ↓dStore, ↓dLmut, ↓lmPre, ↓lmAt, ↓isLst, ↓kNx, ↓kSet, ↓lmAppend, ↓lmExtend, ↓lmPop, ↓lmPopAt, ↓lmClear, ↓lmInsert, ↓lmSet, ↓dAugL, ↓dAugS, ↓lmAugS, ↓dMake, ↓dMake0, ↓dMeth, ↓dFld, ↓dSetF, ↓dTry, ↓dTryM, ↓exM, ↓dRaise, ↓endsOf, ↓startE, ↓entOf, ↓ga, ↓pur, ↓dDnew, ↓dDput, ↓dDget, ↓dDsetd, ↓dLmX, ↓dFrzM, ↓dZip, ↓dZipM, ↓dListRev, ↓oListRev, ↓dOrG, ↓dLstM, ↓onDic, ↓onDicR, ↓onLst, ↓obD, ↓dVarP, ↓dItC, ↓onIns, ↓endsW, ↓dLidx, ↓isLD, ↓oIdx, ↓dTake, ↓dLendT, ↓dLendE, ↓lendE, ↓lend1, ↓dFzv, ↓fzv, ↓dStoreX, ↓dLidxD, ↓dGive, ↓dZip3, ↓dListD, ↓dMakeM, ↓dAugF, ↓dForES, ↓dZipN, ↓dLcS, ↓dAugM, ↓dSortK, ↓lmReverse, ↓dLcntD, ↓oCntD, ↓dRevR, ↓drf_int, ↓drf_str, ↓drf_bl, ↓drf_non, ↓drf_lst, ↓drf_tup, ↓drf_obj, ↓drf_dic, ↓drf_cls, ↓drf_exc, ↓drf_ty, ↓drf_ref, ↓drfO_dic, ↓drfO_lst, ↓drfO_ins, ↓drfO_non, ↓oLen_d, ↓oIn_d, ↓oNotIn_d, ↓oIn_dt, ↓oNotIn_dt, ↓kOkB_s, ↓kOkB_i, ↓oAdd_i, ↓oAdd_s, ↓oAdd_t, ↓oAdd_l, ↓oSub_i, ↓oMul_i, ↓oMulW_i, ↓oMulA_i, ↓oMulA_s, ↓oFdiv_i, ↓oMod_i, ↓oPow_i, ↓oLt_i, ↓oLtA_i, ↓oLe_i, ↓oGt_i, ↓oGe_i, ↓oEq_i, ↓oEq_s, ↓oEq_b, ↓oEq_nn, ↓oEq_ni, ↓oEq_in, ↓oEq_ns, ↓oEq_sn, ↓oNe_i, ↓oNe_s, ↓oNe_b, ↓oNe_nn, ↓oNe_ni, ↓oNe_in, ↓oNe_ns, ↓oNe_sn, ↓oIsN_, ↓oNotN_, ↓oIsB_, ↓oNotB_, ↓isNon_int, ↓isNon_str, ↓isNon_bl, ↓isNon_non, ↓isNon_lst, ↓isNon_tup, ↓isNon_obj, ↓isNon_exc, ↓isNon_dic, ↓oLen_s, ↓oLen_l, ↓oLen_t, ↓oAbs_, ↓oMax2_, ↓oMin2_, ↓oMinT_, ↓oMaxT_, ↓oInt1_i, ↓oInt1_b, ↓oInt1_s, ↓oStr1_, ↓oTuple1_l, ↓oTuple1_t, ↓oList1_l, ↓oList1_t, ↓oListD_d, ↓oCat_l, ↓truD_n, ↓truD_b, ↓truD_i, ↓truD_s, ↓truD_l, ↓truD_t, ↓onStr_s, ↓soStarts_, ↓soUpper_, ↓soLower_, ↓soIsupper_, ↓soFind_, ↓soStrip_, ↓soPart_, ↓soSplit_, ↓soJoin_l, ↓soJoin_t, ↓oSlL_l, ↓oSlS_l, ↓oSlS_t, ↓oSlS_s, ↓isi_int_int, ↓isi_int_str, ↓isi_int_bool, ↓isi_int_NoneType, ↓isi_int_list, ↓isi_int_tuple, ↓isi_bool_int, ↓isi_bool_str, ↓isi_bool_bool, ↓isi_bool_NoneType, ↓isi_bool_list, ↓isi_bool_tuple, ↓isi_tuple_int, ↓isi_tuple_str, ↓isi_tuple_bool, ↓isi_tuple_NoneType, ↓isi_tuple_list, ↓isi_tuple_tuple, ↓isi_str_int, ↓isi_str_str, ↓isi_str_bool, ↓isi_str_NoneType, ↓isi_str_list, ↓isi_str_tuple, ↓isi_list_int, ↓isi_list_str, ↓isi_list_bool, ↓isi_list_NoneType, ↓isi_list_list, ↓isi_list_tuple, ↓oIx_t0, ↓oIx_l0, ↓oIx_t1, ↓oIx_l1, ↓oIx_t2, ↓oIx_l2, ↓oIx_t3, ↓oIx_l3, ↓oIx_t4, ↓oIx_l4, ↓oIx_t5, ↓oIx_l5, ↓oIx_f0, ↓oIx_f1, ↓drf_fD, ↓oLen_f, ↓isi_tuple_f, ↓isi_int_f, ↓eq_fD, ↓ne_fD, ofS_inj, mem_ofS, mem_ofS0, putD_nil, putD_cons, updM_same, String.reduceEq, Nat.reduceLT, true_or, or_true, false_or, or_false, true_and, and_true, false_and, and_false, List.set_cons_zero, List.set_cons_succ, List.map_cons, List.map_nil, if_true, if_false, Bool.false_eq_true, decide_eq_true_eq, List.length_cons, List.length_nil, Int.reduceNe, Int.reduceLT, Int.reduceLE, Int.reduceEq, Int.reduceToNat, Int.reducePow, Int.reduceNeg, Int.reduceAdd, Int.reduceMul, Int.reduceSub, Nat.reduceAdd, Nat.reduceLeDiff, Nat.reduceEqDiff, Int.cast_ofNat_Int, Bool.true_eq_false, ite_not, sizeLine_eq, true_and, and_true, and_self, Int.fmod_eq_emod_of_nonneg, Int.fdiv_eq_ediv_of_nonneg, Bool.not_true, Bool.not_false, Bool.not_eq_true', decide_eq_false_iff_not, decide_true, decide_false])
section
def t_l_at : DTS :=
 (dSeq (dIf (dTst (dOp oLt (dVarR 1) (dCB oLen (dCons (dVarR 0) dNil)))) (dRet (dOp oIx (dVarR 0) (dVarR 1))) dNext)
 (dRet (dC (.int 0))))
section
variable {G : DTG} {U : DTT} {T : DTE} {ws : List Nat} {xs : List D} {ρ : List Ent} {M : Mu} {Q : List D → Mu → Prop}
theorem lc_all (P : Nat → D → Prop) (hl : xs.length ≤ 1000000) (h : ∀ i x, xs[i]? = some x → ∀ (K : D → Mu → Prop) (N : Mu → Prop), (∀ d, P i d → K d M) → G x (wipeE ρ ws) fun ρ2 => U ρ2 M (fun b M2 => if b = true then T ρ2 M2 K (fun _ _ => False) else N M2) (fun _ _ => False))
    (hq : ∀ acc : List D, acc.length = xs.length → (∀ (i : Nat) d, acc[i]? = some d → P i d) → Q acc M) : dLcI G U T ws xs ρ M Q := by
  refine ⟨fun i acc M' => acc.length = i ∧ (∀ (j : Nat) d, acc[j]? = some d → P j d) ∧ M' = M, ⟨rfl, fun j d e => by simp at e, rfl⟩, ?_, ?_⟩
  · rintro i x hx acc M' ⟨h1, h2, rfl⟩
    have hi := (List.getElem?_eq_some_iff.mp hx).1
    refine ⟨by rw [sizeLine_eq]; omega, h i x hx _ _ fun d hd => ⟨by simp [h1], fun j d' e => ?_, rfl⟩⟩
    by_cases z : j < acc.length
    · rw [List.getElem?_append_left z] at e; exact h2 j d' e
    · have hj := (List.getElem?_eq_some_iff.mp e).1
      simp at hj
      have ej : j = acc.length := by omega
      subst ej
      rw [List.getElem?_append_right (Nat.le_refl _)] at e
      simp at e
      subst e
      rw [h1]; exact hd
  · rintro acc M' ⟨h1, h2, rfl⟩
    exact hq acc h1 h2
theorem lc_map (f : D → D) (hl : xs.length ≤ 1000000) (h : ∀ x ∈ xs, ∀ (K : D → Mu → Prop) (N : Mu → Prop), K (f x) M → G x (wipeE ρ ws) fun ρ2 => U ρ2 M (fun b M2 => if b = true then T ρ2 M2 K (fun _ _ => False) else N M2) (fun _ _ => False))
    (hq : Q (xs.map f) M) : dLcI G U T ws xs ρ M Q := by
  refine lc_all (fun i d => ∃ x, xs[i]? = some x ∧ d = f x) hl (fun i x hx K N hk => h x (List.mem_of_getElem? hx) K N (hk _ ⟨x, hx, rfl⟩)) fun acc h1 h2 => ?_
  have e : acc = xs.map f := by
    refine List.ext_getElem? fun i => ?_
    rw [List.getElem?_map]
    cases z : acc[i]? with
    | none =>
      have := List.getElem?_eq_none_iff.mp z
      rw [List.getElem?_eq_none (by omega)]; rfl
    | some d =>
      obtain ⟨x, e1, e2⟩ := h2 i d z
      rw [e1, e2]; rfl
  rw [e]; exact hq
end
def sp_l_at : SpD := fun ds Q _ => match ds with | [.lst xs, .int k] => ∃ ns : List Int, xs = ns.map .int ∧ 0 ≤ k ∧ Q (.int (ns.getD k.toNat 0)) | _ => False
theorem map_int_inj : ∀ {a b : List Int}, a.map D.int = b.map D.int → a = b
  | [], [], _ => rfl
  | [], _ :: _, h => by cases h
  | _ :: _, [], h => by cases h
  | x :: a, y :: b, h => by
    injection h with h1 h2
    injection h1 with h1
    rw [h1, map_int_inj h2]
theorem e_l_at {ns : List Int} {k : Int} {Q : D → Prop} {E : Str → Prop} : sp_l_at [.lst (ns.map .int), .int k] Q E = (0 ≤ k ∧ Q (.int (ns.getD k.toNat 0))) :=
  propext ⟨fun ⟨n2, e, h⟩ => by cases map_int_inj e; exact h, fun h => ⟨ns, rfl, h⟩⟩
theorem r_l_at (ds M Q E) (h : pur sp_l_at ds M Q E) : t_l_at (endsOf Q E) (startE [false, false] 2 ds) M := by
  unfold pur sp_l_at at h
  dsimp only at h
  split at h
  · obtain ⟨ns, rfl, h0, h⟩ := h
    rename_i k
    simp! [t_l_at, List.length_map]
    by_cases hk : k < (ns.length : Int)
    · rw [if_pos hk, (ix_lt h0 (by rw [List.length_map]; exact hk)).1, getD_map_int _ _ (by omega)]
      exact h
    · rw [if_neg hk]
      have e : ns.getD k.toNat 0 = 0 := by rw [List.getD_eq_getElem?_getD, List.getElem?_eq_none (by omega)]; rfl
      rw [e] at h; exact h
  · exact h.elim
end
section
section
open Evl (Ex)
variable {X : Cx} {wx : WX} {elt tg iter : Expr} {ifs : List Expr} {scope : Scope} {own : List (Str × Nat)} {pos : Pos} {Ti : DTA} {G : DTG} {U : DTT} {T : DTE}
theorem rf_sto {t : TE} {T : DTA} (r : RfN (bx X) wx t T) : RfE (bx X) wx t (dLstM T) := by
  refine fun W0 W m σ ρ M Q Qd Ed R k h1 h2 h3 => r W0 W m σ ρ M Q _ Ed R k h1 (fun ds p vs W' m' M' q le k' hn hp hf hv => ?_) h3
  have mp : m' p = none := k'.dj p (by rw [hp]; exact fun z => by cases z)
  have exH : Ex W'.F (fun b => if b = p then none else W'.H b) := fun b o z => by
    dsimp only
    rw [if_neg (fun y => by subst y; rw [hf] at z; cases z)]
    exact W'.ok b o z
  have le3 : W.le ⟨W'.F, fun b => if b = p then none else W'.H b, exH⟩ := ⟨le.f, fun b o z => by
    dsimp only
    rw [if_neg (fun y => by subst y; rw [hn] at z; cases z)]
    exact le.h b o z, le.n⟩
  have k3 : MOk (bx X) ⟨W'.F, fun b => if b = p then none else W'.H b, exH⟩ M' m' := ⟨fun b hb => k'.dj b (fun z => hb (by
    dsimp only
    split
    · rfl
    · exact z)), k'.ok⟩
  have k4 := k3.put (a := p) (ob := .lst ds) (o := .lst vs) (if_pos rfl) ⟨vs, rfl, hv⟩
  have e1 : cat (fun b => if b = p then none else W'.H b) (upd m' p (.lst vs)) = cat W'.H m' := by
    funext b
    by_cases z : b = p
    · subst z
      rw [cat_none (if_pos rfl), upd_same, cat_some hp]
    · unfold cat
      dsimp only
      rw [if_neg z, upd_ne z]
  have := h2 (.ref p) (.ref p) _ _ _ (q p (k'.nn mp)) le3 k4 (.ref p)
  rw [← e1]
  exact this
theorem ds_setLcM {j : Nat} {y : Str} {py spos : Pos} (hN : X.N.Nodup) (hi : DI X wx tg iter Ti) (ok : BlkOk X.N X.env.scope scope own) (hg : ∀ z, DGk (blkF X scope z) tg G (own.map (·.2))) (ht : ∀ z, DTs (blkF X scope z) wx0 ifs U) (he : ∀ z, DE (blkF X scope z) wx0 elt T)
    (hsw : swapsWith (.ListComp elt [⟨tg, iter, ifs, 0⟩] scope pos) (some (.Name y py)) spos.line X.env = pure true := by exact sw_true rfl rfl rfl (by decide +kernel)) (hy : X.N[j]? = some y := by rfl) (hyl : X.env.scope.names.lookup y = some .local := by rfl) (hc : X.calm = true := by rfl) (hs : ∀ x, foldedSetIterable iter X.env x = pure x := by intro _; rfl) :
    DS X wx (.Assign [.Name y py] (.ListComp elt [⟨tg, iter, ifs, 0⟩] scope pos) spos) (dAsg j (dLstM (dLc Ti G U T (own.map (·.2))))) := by
  obtain ⟨t, p, r⟩ := ps_lc hN hi ok hg ht he hsw hy hyl hc hs
  refine ⟨_, p, fun W0 W m σ ρ M D DD R mk h k => rf_sto r W0 W m σ ρ M _ _ _ R mk h (fun d v W' m' M' q le mk' hv => ?_) fun C W' m' M' q le mk' => k.ex C W' m' σ ρ M' (R.mono le) mk' q⟩
  exact k.nx W' m' _ _ M' ((R.mono le).set hv) mk' q
end
end
section
def t_l_mix : DTS :=
 (dSeq (dAsg 2 (dOp oIx (dLstOf (dLst (dCons (dC (.int 48271)) (dCons (dC (.int 69621)) (dCons (dC (.int 16807)) (dCons (dC (.int 40692)) (dCons (dC (.int 30269)) (dCons (dC (.int 62089)) (dCons (dC (.int 45991)) dNil))))))))) (dOp oMod (dVarR 1) (dC (.int 7)))))
 (dSeq (dAsg 3 (dOp oMod (dOp oMulA (dOp oAdd (dOp oAdd (dOp oMod (dVarR 0) (dC (.int 2147483647))) (dOp oMulA (dOp oMulA (dC (.int 97)) (dVarR 1)) (dVarR 1))) (dC (.int 11))) (dVarR 2)) (dC (.int 2147483629))))
 (dRet (dOp oMod (dOp oMulA (dVarR 3) (dVarR 3)) (dC (.int 1999999973))))))
def mixF (k : Int) : Int := [48271, 69621, 16807, 40692, 30269, 62089, 45991].getD (k % 7).toNat 0
def mixN (c k : Int) : Int := (c % 2147483647 + 97 * k * k + 11) * mixF k % 2147483629
def mix (c k : Int) : Int := mixN c k * mixN c k % 1999999973
theorem mix_lo (c k : Int) : 0 ≤ mix c k := Int.emod_nonneg _ (by decide)
theorem mix_hi (c k : Int) : mix c k < 1999999973 := Int.emod_lt_of_pos _ (by decide)
theorem mixF_lo (k : Int) : 0 ≤ mixF k ∧ mixF k < 100000 := by
  have h0 := Int.emod_nonneg k (show (7 : Int) ≠ 0 by decide)
  have h1 := Int.emod_lt_of_pos k (show (0 : Int) < 7 by decide)
  unfold mixF
  obtain ⟨n, hn⟩ := Int.eq_ofNat_of_zero_le h0
  rw [hn] at h1 ⊢
  have : n = 0 ∨ n = 1 ∨ n = 2 ∨ n = 3 ∨ n = 4 ∨ n = 5 ∨ n = 6 := by omega
  rcases this with rfl | rfl | rfl | rfl | rfl | rfl | rfl <;> decide
def kOk (k : Int) : Prop := 0 ≤ k ∧ k < 1000000
def sp_l_mix : SpD := fun ds Q _ => match ds with | [.int c, .int k] => kOk k ∧ Q (.int (mix c k)) | _ => False
theorem r_l_mix (ds M Q E) (h : pur sp_l_mix ds M Q E) : t_l_mix (endsOf Q E) (startE [false, false] 4 ds) M := by
  obtain ⟨c, k, rfl, hk, h⟩ := sp2i h
  have h0 := Int.emod_nonneg k (show (7 : Int) ≠ 0 by decide)
  have h1 := Int.emod_lt_of_pos k (show (0 : Int) < 7 by decide)
  simp! [t_l_mix, dLstOf, dLst]
  rw [(ix_lt h0 (by simp; omega)).1]
  have e := getD_map_int [48271, 69621, 16807, 40692, 30269, 62089, 45991] (k % 7).toNat (by simp; omega)
  simp only [List.map_cons, List.map_nil] at e
  rw [e]
  simp! [dSeq]
  obtain ⟨k0, k1⟩ := hk
  have hkk : 0 ≤ 97 * k * k ∧ 97 * k * k < 97000000000000 := by
    have h1 := mul_bd k0 (show k ≤ 999999 by omega) k0 (show k ≤ 999999 by omega)
    have e : 97 * k * k = 97 * (k * k) := by rw [Int.mul_assoc]
    omega
  have hc := Int.emod_nonneg c (show (2147483647 : Int) ≠ 0 by decide)
  have hc2 := Int.emod_lt_of_pos c (show (0 : Int) < 2147483647 by decide)
  have hF := mixF_lo k
  have eF : [48271, 69621, 16807, 40692, 30269, 62089, 45991].getD (k % 7).toNat 0 = mixF k := rfl
  rw [eF]
  have eN : (c % 2147483647 + 97 * k * k + 11) * mixF k % 2147483629 = mixN c k := rfl
  rw [eN]
  have hN := Int.emod_nonneg ((c % 2147483647 + 97 * k * k + 11) * mixF k) (show (2147483629 : Int) ≠ 0 by decide)
  have hN2 := Int.emod_lt_of_pos ((c % 2147483647 + 97 * k * k + 11) * mixF k) (show (0 : Int) < 2147483629 by decide)
  rw [eN] at hN hN2
  exact ⟨sm_lit (by omega) (by omega), sm_lit (by omega) (by omega), sm_lit (by omega) (by omega), sm_lit (by omega) (by omega), sm_lit (by omega) (by omega), sm_lit (by omega) (by omega), sm_lit (by omega) (by omega), sm_lit (by omega) (by omega), h⟩
def bd50 (i : Int) : Prop := -(10 ^ 50) < i ∧ i < 10 ^ 50
theorem bd50.sm {i : Int} (h : bd50 i) : Sm i := by unfold bd50 at h; exact sm_lit (by omega) (by omega)
end
section
def fits (n : Nat) (p : Rat) : Prop := p.num.natAbs < 2 ^ n ∧ p.den < 2 ^ n
theorem fits.mono {m n : Nat} {p : Rat} (h : fits m p) (e : m ≤ n) : fits n p :=
  ⟨Nat.lt_of_lt_of_le h.1 (Nat.pow_le_pow_right (by decide) e), Nat.lt_of_lt_of_le h.2 (Nat.pow_le_pow_right (by decide) e)⟩
theorem fits.num {n : Nat} {p : Rat} (h : fits n p) (e : n ≤ 9000) : Sm p.num := sm_of h.1 e
theorem fits.den {n : Nat} {p : Rat} (h : fits n p) (e : n ≤ 9000) : Sm (p.den : Int) := sm_of (i := (p.den : Int)) (by have := h.2; omega) e
theorem natAbs_lt_mul {a b : Int} {m n : Nat} (h1 : a.natAbs < 2 ^ m) (h2 : b.natAbs < 2 ^ n) : (a * b).natAbs < 2 ^ (m + n) := by
  rw [Int.natAbs_mul, Nat.pow_add]
  exact Nat.mul_lt_mul'' h1 h2
def Szc (p q : Rat) : Prop := Sm p.num ∧ Sm (p.den : Int) ∧ Sm q.num ∧ Sm (q.den : Int) ∧ Sm ((p.den : Int) * q.den)
theorem Szc.of {m n : Nat} {p q : Rat} (h1 : fits m p) (h2 : fits n q) (h : m + n ≤ 8900 := by decide) : Szc p q := by
  refine ⟨h1.num (by omega), h1.den (by omega), h2.num (by omega), h2.den (by omega), sm_of (n := m + n) ?_ (by omega)⟩
  exact natAbs_lt_mul (show ((p.den : Int)).natAbs < 2 ^ m by have := h1.2; omega) (show ((q.den : Int)).natAbs < 2 ^ n by have := h2.2; omega)
theorem Szc.symm {p q : Rat} (h : Szc p q) : Szc q p := by
  obtain ⟨h1, h2, h3, h4, h5⟩ := h
  exact ⟨h3, h4, h1, h2, by rw [Int.mul_comm]; exact h5⟩
section
variable {p q : Rat} {Q : D → Prop} {E : Str → Prop}
end
end
section
def t_is_name : DTS :=
 (dSeq (dIf (dNotT (dTst (dChain oLe oLe (dC (.int 1)) (dCB oLen (dCons (dVarR 0) dNil)) (dC (.int 12))))) (dRet (dC (.bl false))) dNext)
 (dSeq (dFor (dItA (dVar 0)) (dgName 1) (dIf (dAndT (dTst (dOp oNotIn (dVarR 1) (dC (.str "abcdefghijklmnopqrstuvwxyz")))) (dAndT (dTst (dOp oNotIn (dVarR 1) (dC (.str "ABCDEFGHIJKLMNOPQRSTUVWXYZ")))) (dTst (dOp oNotIn (dVarR 1) (dC (.str "0123456789")))))) (dRet (dC (.bl false))) dNext))
 (dRet (dC (.bl true)))))
def t_is_kind (p_is_name : SpM) : DTS :=
 (dRet (dAndV (dCall p_is_name (dCons (dVar 0) dNil)) (dOp oIn (dOp oIx (dVarR 0) (dC (.int 0))) (dC (.str "ABCDEFGHIJKLMNOPQRSTUVWXYZ")))))
def t_is_word (p_is_name : SpM) : DTS :=
 (dRet (dAndV (dCall p_is_name (dCons (dVar 0) dNil)) (dOp oNotIn (dOp oIx (dVarR 0) (dC (.int 0))) (dC (.str "ABCDEFGHIJKLMNOPQRSTUVWXYZ")))))
abbrev cs (x : Str) : List Nat := x.cps.toList
def mkS (l : List Nat) : Str := ⟨l.toArray⟩
theorem mkS_cs (x : Str) : mkS (cs x) = x := by
  obtain ⟨a⟩ := x
  simp [cs, mkS]
theorem len_cs (x : Str) : x.length = (cs x).length := by
  obtain ⟨a⟩ := x
  simp [cs, Str.length]
theorem str_ext {x y : Str} (h : cs x = cs y) : x = y := by rw [← mkS_cs x, ← mkS_cs y, h]
theorem cs_app (x y : Str) : cs (x ++ y) = cs x ++ cs y := by
  obtain ⟨a⟩ := x
  obtain ⟨b⟩ := y
  show (Str.append ⟨a⟩ ⟨b⟩).cps.toList = _
  simp [Str.append, cs]
def isSm (c : Nat) : Bool := decide (97 ≤ c ∧ c ≤ 122)
def isGr (c : Nat) : Bool := decide (65 ≤ c ∧ c ≤ 90)
def isFi (c : Nat) : Bool := decide (48 ≤ c ∧ c ≤ 57)
def alnum (c : Nat) : Bool := isSm c || isGr c || isFi c
theorem mem_run {l : List Nat} {a n c : Nat} (h : l = (List.range n).map (a + ·)) : c ∈ l ↔ a ≤ c ∧ c < a + n := by
  subst h
  simp only [List.mem_map, List.mem_range]
  constructor
  · rintro ⟨k, h1, rfl⟩; omega
  · rintro ⟨h1, h2⟩; exact ⟨c - a, by omega, by omega⟩
theorem mem_small (c : Nat) : decide (c ∈ (Str.ofString "abcdefghijklmnopqrstuvwxyz").cps.toList) = isSm c := by
  have := mem_run (c := c) (show (Str.ofString "abcdefghijklmnopqrstuvwxyz").cps.toList = (List.range 26).map (97 + ·) by decide +kernel)
  rw [Bool.eq_iff_iff, decide_eq_true_eq, this, isSm, decide_eq_true_eq]; omega
theorem mem_great (c : Nat) : decide (c ∈ (Str.ofString "ABCDEFGHIJKLMNOPQRSTUVWXYZ").cps.toList) = isGr c := by
  have := mem_run (c := c) (show (Str.ofString "ABCDEFGHIJKLMNOPQRSTUVWXYZ").cps.toList = (List.range 26).map (65 + ·) by decide +kernel)
  rw [Bool.eq_iff_iff, decide_eq_true_eq, this, isGr, decide_eq_true_eq]; omega
theorem mem_figs (c : Nat) : decide (c ∈ (Str.ofString "0123456789").cps.toList) = isFi c := by
  have := mem_run (c := c) (show (Str.ofString "0123456789").cps.toList = (List.range 10).map (48 + ·) by decide +kernel)
  rw [Bool.eq_iff_iff, decide_eq_true_eq, this, isFi, decide_eq_true_eq]; omega
theorem mem_alnum (c : Nat) : decide (c ∈ (Str.ofString "abcdefghijklmnopqrstuvwxyz0123456789ABCDEFGHIJKLMNOPQRSTUVWXYZ").cps.toList) = alnum c := by
  have e : (Str.ofString "abcdefghijklmnopqrstuvwxyz0123456789ABCDEFGHIJKLMNOPQRSTUVWXYZ").cps.toList = (List.range 26).map (97 + ·) ++ ((List.range 10).map (48 + ·) ++ (List.range 26).map (65 + ·)) := by decide +kernel
  rw [e, Bool.eq_iff_iff, decide_eq_true_eq, List.mem_append, List.mem_append, mem_run rfl, mem_run rfl, mem_run rfl]
  simp only [alnum, isSm, isGr, isFi, Bool.or_eq_true, decide_eq_true_eq]
  omega
theorem oIn_c {c : Nat} {z : Str} {Q : D → Prop} : oIn (.str ⟨#[c]⟩) (.str z) Q = Q (.bl (decide (c ∈ z.cps.toList))) :=
  propext ⟨fun ⟨c', e, q⟩ => by injection e with e; injection e with e; injection e with e; subst e; exact q, fun q => ⟨c, rfl, q⟩⟩
theorem oNotIn_c {c : Nat} {z : Str} {Q : D → Prop} : oNotIn (.str ⟨#[c]⟩) (.str z) Q = Q (.bl (!decide (c ∈ z.cps.toList))) :=
  propext ⟨fun ⟨c', e, q⟩ => by injection e with e; injection e with e; injection e with e; subst e; exact q, fun q => ⟨c, rfl, q⟩⟩
theorem oIx_s {z : Str} {i : Int} {n c : Nat} {Q : D → Prop} (e : i = (n : Int)) (h : (cs z)[n]? = some c) : oIx (.str z) (.int i) Q = (z.length ≤ sizeLine ∧ Q (.str ⟨#[c]⟩)) := by
  have := atI_at e h
  show (z.length ≤ sizeLine ∧ ∃ c, atI z.cps.toList i = some c ∧ Q (.str ⟨#[c]⟩)) = _
  rw [this]
  exact propext ⟨fun ⟨h1, d, e, q⟩ => by cases e; exact ⟨h1, q⟩, fun ⟨h1, q⟩ => ⟨h1, c, rfl, q⟩⟩
def nameB (x : Str) : Bool := decide (1 ≤ (cs x).length ∧ (cs x).length ≤ 12) && (cs x).all alnum
def kindB (x : Str) : Bool := nameB x && (match cs x with | c :: _ => isGr c | [] => false)
def wordB (x : Str) : Bool := nameB x && (match cs x with | c :: _ => !isGr c | [] => false)
def sz (x : Str) : Prop := (cs x).length ≤ 1000000
theorem sz.ok {x : Str} (h : sz x) : x.length ≤ sizeLine := by rw [len_cs, sizeLine_eq]; unfold sz at h; omega
def sp_is_name : SpD := fun ds Q _ => match ds with | [.str x] => sz x ∧ Q (.bl (nameB x)) | _ => False
def sp_is_kind : SpD := fun ds Q _ => match ds with | [.str x] => sz x ∧ Q (.bl (kindB x)) | _ => False
def sp_is_word : SpD := fun ds Q _ => match ds with | [.str x] => sz x ∧ Q (.bl (wordB x)) | _ => False
theorem sp1s {P : Str → Prop} {ds : List D} (h : match ds with | [.str a] => P a | _ => False) : ∃ a, ds = [.str a] ∧ P a := by
  split at h
  · exact ⟨_, rfl, h⟩
  · exact h.elim
theorem sign_at {x : Str} {i : Nat} {d : D} (h : (signsD x)[i]? = some d) : ∃ c, (cs x)[i]? = some c ∧ d = .str ⟨#[c]⟩ := by
  unfold signsD at h
  rw [List.getElem?_map] at h
  obtain ⟨c, h1, h2⟩ := Option.map_eq_some_iff.mp h
  exact ⟨c, h1, h2.symm⟩
theorem take_all {l : List Nat} {P : Nat → Bool} {i c : Nat} (h : (l.take i).all P = true) (hc : l[i]? = some c) (hp : P c = true) : (l.take (i + 1)).all P = true := by
  rw [List.take_add_one, hc, List.all_append, h]
  simp [hp]
theorem all_false {l : List Nat} {P : Nat → Bool} {i c : Nat} (hc : l[i]? = some c) (hp : P c = false) : l.all P = false := by
  rw [Bool.eq_false_iff]
  intro h
  have := List.all_eq_true.mp h c (List.mem_of_getElem? hc)
  rw [hp] at this; cases this
theorem signs_len (x : Str) : (signsD x).length = (cs x).length := by simp [signsD, cs]
theorem r_is_name (ds M Q E) (h : pur sp_is_name ds M Q E) : t_is_name (endsOf Q E) (startE [false] 2 ds) M := by
  obtain ⟨x, rfl, hs, h'⟩ := sp1s h
  clear h
  have hz := hs.ok
  rw [sizeLine_eq] at hz
  simp! [t_is_name, hz]
  rw [len_cs]
  have hc : ∀ P : Prop, (Q (.bl (nameB x)) M → P) → P := fun P f => f h'
  by_cases hl : 1 ≤ (cs x).length ∧ (cs x).length ≤ 12
  · have l1 : (1 : Int) ≤ ((cs x).length : Int) := by omega
    have l2 : ((cs x).length : Int) ≤ 12 := by omega
    simp only [l1, l2, if_true, not_true_eq_false, if_false]
    refine ⟨fun i ρ M' => ((cs x).take i).all alnum = true ∧ (∃ r, ρ = [.dat (.str x), r]) ∧ M' = M, ⟨by simp, ⟨_, rfl⟩, rfl⟩, ?_, ?_⟩
    · rintro i d hd ρ M' ⟨ha, ⟨r, rfl⟩, rfl⟩
      obtain ⟨c, hc, rfl⟩ := sign_at hd
      simp! [oNotIn_c, mem_small, mem_great, mem_figs]
      cases hal : alnum c with
      | true =>
        have e := hal
        unfold alnum at e
        have go : (List.take (i + 1) (cs x)).all alnum = true ∧ ∃ r, [Ent.dat (D.str x), Ent.dat (D.str ⟨#[c]⟩)] = [Ent.dat (D.str x), r] := ⟨take_all ha hc hal, _, rfl⟩
        cases h1 : isSm c <;> cases h2 : isGr c <;> cases h3 : isFi c <;> rw [h1, h2, h3] at e <;> first | (cases e; done) | exact go
      | false =>
        have e := hal
        unfold alnum at e
        simp only [Bool.or_eq_false_iff] at e
        rw [e.1.1, e.1.2, e.2]
        have := all_false hc hal
        unfold nameB at h'
        rw [this, Bool.and_false] at h'
        exact h'
    · rintro ρ M' ⟨ha, ⟨r, rfl⟩, rfl⟩
      rw [signs_len, List.take_length] at ha
      simp! [dSeq]
      unfold nameB at h'
      rw [ha, decide_eq_true hl] at h'
      exact h'
  · have hn : nameB x = false := by unfold nameB; rw [decide_eq_false hl]; rfl
    rw [hn] at h'
    by_cases l1 : (1 : Int) ≤ ((cs x).length : Int)
    · have l2 : ¬ ((cs x).length : Int) ≤ 12 := by omega
      simp only [l1, l2, if_true, if_false, not_true_eq_false, not_false_eq_true]
      exact h'
    · simp only [l1, if_true, if_false, not_true_eq_false, not_false_eq_true]
      exact h'
theorem name_cons {x : Str} (h : nameB x = true) : ∃ c r, cs x = c :: r ∧ alnum c = true := by
  unfold nameB at h
  rw [Bool.and_eq_true, decide_eq_true_eq] at h
  cases e : cs x with
  | nil => rw [e] at h; simp at h
  | cons c r => rw [e] at h; simp at h; exact ⟨c, r, rfl, h.2.1⟩
theorem r_is_kind (ds M Q E) (h : pur sp_is_kind ds M Q E) : t_is_kind (pur sp_is_name) (endsOf Q E) (startE [false] 1 ds) M := by
  obtain ⟨x, rfl, hs, h'⟩ := sp1s h
  clear h
  simp! [t_is_kind, sp_is_name]
  refine ⟨hs, ?_⟩
  cases hn : nameB x with
  | false => unfold kindB at h'; rw [hn] at h'; exact h'
  | true =>
    obtain ⟨c, r, e, _⟩ := name_cons hn
    simp only [if_true]
    rw [oIx_s (i := 0) (n := 0) rfl (by rw [e]; rfl)]
    refine ⟨hs.ok, ?_⟩
    simp! [oIn_c, mem_great]
    unfold kindB at h'
    rw [hn, e] at h'
    exact h'
theorem r_is_word (ds M Q E) (h : pur sp_is_word ds M Q E) : t_is_word (pur sp_is_name) (endsOf Q E) (startE [false] 1 ds) M := by
  obtain ⟨x, rfl, hs, h'⟩ := sp1s h
  clear h
  simp! [t_is_word, sp_is_name]
  refine ⟨hs, ?_⟩
  cases hn : nameB x with
  | false => unfold wordB at h'; rw [hn] at h'; exact h'
  | true =>
    obtain ⟨c, r, e, _⟩ := name_cons hn
    simp only [if_true]
    rw [oIx_s (i := 0) (n := 0) rfl (by rw [e]; rfl)]
    refine ⟨hs.ok, ?_⟩
    simp! [oNotIn_c, mem_great]
    unfold wordB at h'
    rw [hn, e] at h'
    exact h'
theorem joinL_nil : ∀ ps : List (List Nat), TL.joinL [] ps = ps.flatten
  | [] => rfl
  | [p] => by simp [TL.joinL]
  | p :: q :: r => by
    show p ++ ([] ++ TL.joinL [] (q :: r)) = _
    rw [joinL_nil (q :: r)]; simp
theorem cs_empty : cs (Str.ofString "") = [] := by decide +kernel
theorem cs_join0 (ys : List Str) : cs (Txt.join (Str.ofString "") ys) = (ys.map cs).flatten := by
  rw [TL.join_eq]
  have := TL.tl_join (Str.ofString "") ys
  show TL.tl _ = _
  rw [this]
  have e : TL.tl (Str.ofString "") = [] := cs_empty
  rw [e, joinL_nil]
theorem ix_str {z : Str} {i : Int} {Q : D → Prop} (h0 : 0 ≤ i) (h1 : i < (cs z).length) (hz : z.length ≤ sizeLine) (q : ∀ c, (cs z)[i.toNat]? = some c → Q (.str ⟨#[c]⟩)) : oIx (.str z) (.int i) Q := by
  obtain ⟨c, hc⟩ : ∃ c, (cs z)[i.toNat]? = some c := ⟨_, List.getElem?_eq_getElem (by omega)⟩
  rw [oIx_s (i := i) (n := i.toNat) (by omega) hc]
  exact ⟨hz, q c hc⟩
theorem rng_at {lo : Int} {n i : Nat} {d : D} (h : (rngD lo n)[i]? = some d) : i < n ∧ d = .int (lo + i) := by
  unfold rngD at h
  rw [List.getElem?_map] at h
  obtain ⟨k, h1, h2⟩ := Option.map_eq_some_iff.mp h
  obtain ⟨h3, h4⟩ := List.getElem?_eq_some_iff.mp h1
  rw [List.getElem_range] at h4
  simp at h3
  subst h4
  exact ⟨h3, h2.symm⟩
theorem rng_len (lo : Int) (n : Nat) : (rngD lo n).length = n := by simp [rngD]
theorem cutS_cs (z : Str) (lo hi : Option Int) : cs (cutS z lo hi) = ((cs z).drop (HT.sIx (cs z).length 0 lo)).take (HT.sIx (cs z).length (cs z).length hi - HT.sIx (cs z).length 0 lo) := by
  unfold cutS
  simp [cs, Str.length]
theorem app_len (x y : Str) : (x ++ y).length = x.length + y.length := by rw [len_cs, len_cs, len_cs, cs_app, List.length_append]
theorem one_len (c : Nat) : (⟨#[c]⟩ : Str).length = 1 := rfl
theorem ix_all {xs : List D} {i : Int} {P : D → Prop} {Q : D → Prop} (h0 : 0 ≤ i) (h1 : i < xs.length) (hP : ∀ d ∈ xs, P d) (q : ∀ d, P d → Q d) : oIx (.lst xs) (.int i) Q := by
  rw [(ix_lt h0 h1).1]
  refine q _ (hP _ ?_)
  rw [List.getD_eq_getElem?_getD, List.getElem?_eq_getElem (by omega)]
  exact List.getElem_mem _
end
section
section
variable {p q : SpM} {K : SpM → Prop} {m : Str} {c : Bool} {M : Mu}
end
section
variable {cs : List D} {bs : List (String × Bool)} {exs objs : List (Str × Bool)} {n : Str} {fs : List (Str × D)} {b : Bool} {Q : D → Prop} {c : D}
theorem isC_exc (h1 : c = .tup cs ∨ cs = [c]) (h2 : exs.lookup n = some b) : oIsC cs bs exs objs [.exc n, c] Q = Q (.bl b) := propext ⟨fun ⟨_, d, e, h⟩ => by rw [show isT bs exs objs (.exc n) = exs.lookup n from rfl, h2] at e; cases e; exact h, fun h => ⟨h1, b, h2, h⟩⟩
end
theorem sp1 {P : D → Prop} {ds : List D} (h : match ds with | [a] => P a | _ => False) : ∃ a, ds = [a] ∧ P a := by
  split at h
  · exact ⟨_, rfl, h⟩
  · exact h.elim
section
variable {d : D} {p q : Rat} {Q : D → Prop} {E : Str → Prop}
end
end
section
def t_l_names (p_l_mix : SpM) : DTS :=
 (dSeq (dAsg 3 (dC (.str "abcdefghijklmnopqrstuvwxyz0123456789ABCDEFGHIJKLMNOPQRSTUVWXYZ")))
 (dSeq (dAsg 4 (dCall p_l_mix (dCons (dVar 0) (dCons (dC (.int 0)) dNil))))
 (dSeq (dAsg 5 (dOp oMod (dOp oFdiv (dVarR 4) (dC (.int 5))) (dCB oLen (dCons (dVarR 2) dNil))))
 (dSeq (dAsg 6 (dSM soJoin (dC (.str "")) (dCons (dLstOf (dLc (dRng1 (dCons (dC (.int 11)) dNil)) (dgName 9) dYes (dOp oIx (dVarR 3) (dOp oMod (dOp oAdd (dOp oFdiv (dVarR 4) (dOp oAdd (dVarR 9) (dC (.int 1)))) (dOp oMulA (dVarR 9) (dVarR 9))) (dC (.int 62)))) [9])) dNil)))
 (dSeq (dIf (dTst (dOp oEq (dOp oMod (dVarR 4) (dC (.int 3))) (dC (.int 0)))) (dRet (dLstOf (dLc (dRng1 (dCons (dVarR 1) dNil)) (dgName 10) dYes (dOp oAdd (dOp oIx (dVarR 2) (dVarR 5)) (dSlS (dVarR 6) dONone (dOSome (dVarR 10)))) [10]))) dNext)
 (dSeq (dIf (dTst (dOp oEq (dOp oMod (dVarR 4) (dC (.int 3))) (dC (.int 1)))) (dSeq (dAsg 7 (dOp oMod (dOp oFdiv (dVarR 4) (dC (.int 3))) (dC (.int 12))))
 (dRet (dLstOf (dLc (dRng1 (dCons (dVarR 1) dNil)) (dgName 10) dYes (dOp oAdd (dOp oIx (dVarR 2) (dOp oMod (dOp oAdd (dVarR 5) (dVarR 10)) (dCB oLen (dCons (dVarR 2) dNil)))) (dSlS (dVarR 6) dONone (dOSome (dVarR 7)))) [10])))) dNext)
 (dSeq (dAsg 7 (dOp oMod (dOp oFdiv (dVarR 4) (dC (.int 3))) (dC (.int 11))))
 (dSeq (dAsg 8 (dOp oMod (dOp oFdiv (dVarR 4) (dC (.int 33))) (dOp oAdd (dVarR 7) (dC (.int 1)))))
 (dSeq (dAsg 3 (dLstOf (dLc (dRng1 (dCons (dVarR 1) dNil)) (dgName 10) dYes (dOp oIx (dVarR 3) (dOp oMod (dOp oAdd (dOp oFdiv (dVarR 4) (dC (.int 7))) (dVarR 10)) (dC (.int 62)))) [10])))
 (dRet (dLstOf (dLc (dItA (dVar 3)) (dgName 11) dYes (dOp oAdd (dOp oAdd (dOp oAdd (dOp oIx (dVarR 2) (dVarR 5)) (dSlS (dVarR 6) dONone (dOSome (dVarR 8)))) (dVarR 11)) (dSlS (dVarR 6) (dOSome (dVarR 8)) (dOSome (dVarR 7)))) [11]))))))))))))
theorem strs_of {acc : List D} {g : Nat → List Nat} (h : ∀ (i : Nat) d, acc[i]? = some d → ∃ w : Str, d = .str w ∧ cs w = g i) : ∃ ws : List Str, acc = ws.map .str ∧ ws.length = acc.length ∧ ∀ (i : Nat) w, ws[i]? = some w → cs w = g i := by
  induction acc generalizing g with
  | nil => exact ⟨[], rfl, rfl, fun i w e => by simp at e⟩
  | cons d acc ih =>
    obtain ⟨w, rfl, hw⟩ := h 0 d rfl
    obtain ⟨ws, e1, e2, e3⟩ := ih (g := fun i => g (i + 1)) fun i d e => h (i + 1) d e
    refine ⟨w :: ws, by rw [e1]; rfl, by simp [e2], fun i w' e => ?_⟩
    cases i with
    | zero => simp at e; subst e; exact hw
    | succ i => exact e3 i w' (by simpa using e)
theorem nodup_of {ws : List Str} {g : Nat → List Nat} (h : ∀ (i : Nat) w, ws[i]? = some w → cs w = g i) (hg : ∀ i j, i < ws.length → j < ws.length → g i = g j → i = j) : ws.Nodup := by
  refine List.pairwise_iff_getElem.mpr fun i j hi hj hij e => ?_
  have e1 := h i _ (List.getElem?_eq_getElem hi)
  have e2 := h j _ (List.getElem?_eq_getElem hj)
  rw [e] at e1
  have := hg i j hi hj (e1.symm.trans e2)
  omega
theorem cs_one (c : Nat) : cs ⟨#[c]⟩ = [c] := rfl
theorem mod_inj {s a b L : Int} (hL : 0 < L) (ha : 0 ≤ a ∧ a < L) (hb : 0 ≤ b ∧ b < L) (e : (s + a) % L = (s + b) % L) : a = b := by
  have h1 := Int.emod_eq_emod_iff_emod_sub_eq_zero.mp e
  obtain ⟨k, hk⟩ := Int.dvd_of_emod_eq_zero h1
  rcases Int.lt_trichotomy k 0 with h | h | h
  · have := Int.mul_le_mul_of_nonneg_left (show k ≤ -1 by omega) (show 0 ≤ L by omega)
    omega
  · subst h; omega
  · have := Int.mul_le_mul_of_nonneg_left (show 1 ≤ k by omega) (show 0 ≤ L by omega)
    omega
theorem getD_inj {l : List Nat} (hn : l.Nodup) {a b : Nat} (ha : a < l.length) (hb : b < l.length) (e : l.getD a 0 = l.getD b 0) : a = b := by
  rw [List.getD_eq_getElem?_getD, List.getD_eq_getElem?_getD, List.getElem?_eq_getElem ha, List.getElem?_eq_getElem hb] at e
  exact (List.getElem_inj hn).mp e
def nameOf (f : Str) (w : Str) : Prop := nameB w = true ∧ ∃ c r, cs w = c :: r ∧ c ∈ cs f
def sgs : Str := "abcdefghijklmnopqrstuvwxyz0123456789ABCDEFGHIJKLMNOPQRSTUVWXYZ"
theorem sgs_len : (cs sgs).length = 62 := by decide +kernel
theorem sgs_nd : (cs sgs).Nodup := by decide +kernel
theorem sgs_an : ∀ c ∈ cs sgs, alnum c = true := by decide +kernel
def nmC (m : Int) (i : Nat) : Nat := (cs sgs).getD ((m.fdiv (0 + (i : Int) + 1) + (0 + (i : Int)) * (0 + (i : Int))) % 62).toNat 0
def nmT (m : Int) : List Nat := (List.range 11).map (nmC m)
def nmG (m : Int) (f : Str) (i : Nat) : List Nat :=
  if m % 3 = 0 then (cs f).getD ((m / 5).fmod (f.length : Int)).toNat 0 :: (nmT m).take i
  else if m % 3 = 1 then (cs f).getD (((m / 5).fmod (f.length : Int) + i) % (cs f).length).toNat 0 :: (nmT m).take (m / 3 % 12).toNat
  else (cs f).getD ((m / 5).fmod (f.length : Int)).toNat 0 :: ((nmT m).take ((m / 33).fmod (m / 3 % 11 + 1)).toNat ++ [(cs sgs).getD ((m / 7 + i) % 62).toNat 0] ++ ((nmT m).drop ((m / 33).fmod (m / 3 % 11 + 1)).toNat).take ((m / 3 % 11).toNat - ((m / 33).fmod (m / 3 % 11 + 1)).toNat))
def sp_l_names : SpD := fun ds Q _ => match ds with
  | [.int c, .int n, .str f] => 0 ≤ n ∧ n ≤ 12 ∧ n ≤ (cs f).length ∧ 1 ≤ (cs f).length ∧ (cs f).length ≤ 100 ∧ (cs f).Nodup ∧ (∀ c ∈ cs f, alnum c = true) ∧ ∀ ws : List Str, ws.length = n.toNat → ws.Nodup → (∀ w ∈ ws, nameOf f w) → (∀ (i : Nat) w, ws[i]? = some w → cs w = nmG (mix c 0) f i) → Q (.lst (ws.map .str))
  | _ => False
theorem join_E {acc : List D} {g : Nat → Nat} {Q : D → Prop} (h : ∀ (i : Nat) d, acc[i]? = some d → d = .str ⟨#[g i]⟩) (hl : acc.length ≤ 100000) (q : ∀ x : Str, cs x = (List.range acc.length).map g → Q (.str x)) : joinD (Str.ofString "") acc Q := by
  have e : acc = (((List.range acc.length).map g).map fun c => (⟨#[c]⟩ : Str)).map D.str := by
    apply List.ext_getElem?
    intro i
    rw [List.getElem?_map, List.getElem?_map, List.getElem?_map]
    by_cases z : i < acc.length
    · rw [List.getElem?_range z]
      exact (List.getElem?_eq_getElem z).trans (congrArg some (h i _ (List.getElem?_eq_getElem z)))
    · rw [List.getElem?_eq_none (by omega), List.getElem?_eq_none (by rw [List.length_range]; omega)]; rfl
  generalize hl2 : (List.range acc.length).map g = l at *
  have ll : l.length = acc.length := by rw [← hl2]; simp
  have e2 : ((l.map fun c => (⟨#[c]⟩ : Str)).map cs).flatten = l := by
    clear hl2 ll e q
    induction l with
    | nil => rfl
    | cons c r ih => simp only [List.map_cons, List.flatten_cons, ih]; rfl
  have e3 : ((l.map fun c => (⟨#[c]⟩ : Str)).map (·.length)).sum = l.length := by
    clear hl2 ll e q e2
    induction l with
    | nil => rfl
    | cons c r ih =>
      simp only [List.map_cons, List.sum_cons, List.length_cons, ih]
      show 1 + r.length = r.length + 1
      omega
  refine ⟨l.map fun c => (⟨#[c]⟩ : Str), by rw [e, strsD_map], ?_, q _ ?_⟩
  · have e0 : (Str.ofString "").length = 0 := by rw [len_cs, cs_empty]; rfl
    rw [e3, e0]; omega
  · rw [cs_join0, e2]
theorem r_l_names (ds M Q E) (h : pur sp_l_names ds M Q E) : t_l_names (pur sp_l_mix) (endsOf Q E) (startE [false, false, false] 12 ds) M := by
  unfold pur sp_l_names at h
  dsimp only at h
  split at h
  · rename_i c n f
    obtain ⟨n0, n1, n2, f0, f1, fn, fa, h⟩ := h
    have m0 := mix_lo c 0
    have m1 := mix_hi c 0
    have k0 : kOk 0 := ⟨by decide, by decide⟩
    simp! [t_l_names, sp_l_mix, k0]
    generalize mix c 0 = m at *
    have fz : f.length = (cs f).length := len_cs f
    have sm : ∀ i : Int, 0 ≤ i → i < 100000 → Sm i := fun i h1 h2 => sm_lit (by omega) (by omega)
    refine ⟨sm _ (by decide) (by decide), by omega, by omega, ?_⟩
    refine lc_all (fun i d => d = .str ⟨#[nmC m i]⟩) (by rw [rng_len]; decide) (fun i x hx K N hk => ?_) fun acc a1 a2 => ?_
    · obtain ⟨hi, rfl⟩ := rng_at hx
      simp! [dSeq]
      have hq : 0 ≤ (m.fdiv (0 + (i : Int) + 1) + (0 + (i : Int)) * (0 + (i : Int))) % 62 ∧ (m.fdiv (0 + (i : Int) + 1) + (0 + (i : Int)) * (0 + (i : Int))) % 62 < 62 := ⟨Int.emod_nonneg _ (by decide), Int.emod_lt_of_pos _ (by decide)⟩
      refine ⟨by omega, sm _ (by omega) (by omega), sm _ (by omega) (by omega), sm _ (by omega) (by omega), ?_⟩
      have hg : (cs sgs)[((m.fdiv (0 + (i : Int) + 1) + (0 + (i : Int)) * (0 + (i : Int))) % 62).toNat]? = some (nmC m i) := by
        have := sgs_len
        unfold nmC
        rw [List.getD_eq_getElem?_getD, List.getElem?_eq_getElem (by omega)]; rfl
      rw [oIx_s (z := Str.ofString "abcdefghijklmnopqrstuvwxyz0123456789ABCDEFGHIJKLMNOPQRSTUVWXYZ") (i := (m.fdiv (0 + (i : Int) + 1) + (0 + (i : Int)) * (0 + (i : Int))) % 62) (n := ((m.fdiv (0 + (i : Int) + 1) + (0 + (i : Int)) * (0 + (i : Int))) % 62).toNat) (by omega) hg]
      exact ⟨by rw [len_cs, show (cs (Str.ofString "abcdefghijklmnopqrstuvwxyz0123456789ABCDEFGHIJKLMNOPQRSTUVWXYZ")).length = 62 from sgs_len, sizeLine_eq]; decide, hk _ rfl⟩
    · refine join_E a2 (by rw [a1, rng_len]; decide) fun T tT => ?_
      rw [a1, rng_len] at tT
      have tT : cs T = nmT m := tT
      have t1 : (cs T).length = 11 := by rw [tT]; simp [nmT]
      have t2 : ∀ c ∈ cs T, alnum c = true := fun c hc => by
        rw [tT] at hc
        obtain ⟨i, _, rfl⟩ := List.mem_map.mp hc
        unfold nmC
        have := sgs_len
        have h62 : ((m.fdiv (0 + (i : Int) + 1) + (0 + (i : Int)) * (0 + (i : Int))) % 62).toNat < 62 := by omega
        rw [List.getD_eq_getElem?_getD, List.getElem?_eq_getElem (by omega)]
        exact sgs_an _ (List.getElem_mem _)
      clear a2
      have fin : ∀ g : Nat → List Nat, (∀ i, i < n.toNat → (g i).length ≤ 12 ∧ (∀ c ∈ g i, alnum c = true) ∧ ∃ c r, g i = c :: r ∧ c ∈ cs f) → (∀ i j, i < n.toNat → j < n.toNat → g i = g j → i = j) → (∀ i, g i = nmG m f i) → ∀ acc : List D, acc.length = n.toNat → (∀ (i : Nat) d, acc[i]? = some d → ∃ w : Str, d = .str w ∧ cs w = g i) → Q (.lst acc) M := fun g g1 g2 g3 acc e1 e2 => by
        obtain ⟨ws, rfl, w1, w2⟩ := strs_of e2
        simp only [List.length_map] at e1
        refine h ws e1 (nodup_of w2 fun i j hi hj => g2 i j (by omega) (by omega)) (fun w hw => ?_) fun i w e => by rw [w2 i w e, g3]
        obtain ⟨i, hi, e⟩ := List.getElem_of_mem hw
        have e3 := w2 i w (by rw [List.getElem?_eq_getElem hi, e])
        obtain ⟨x1, x2, c, r, x3, x4⟩ := g1 i (by omega)
        refine ⟨?_, c, r, by rw [e3, x3], x4⟩
        unfold nameB
        rw [e3]
        rw [Bool.and_eq_true, decide_eq_true_eq, List.all_eq_true]
        exact ⟨⟨by rw [x3]; simp, x1⟩, x2⟩
      have s0 : 0 ≤ (m / 5).fmod (f.length : Int) ∧ (m / 5).fmod (f.length : Int) < (cs f).length := by
        rw [Int.fmod_eq_emod_of_nonneg _ (by omega), fz]
        exact ⟨Int.emod_nonneg _ (by omega), Int.emod_lt_of_pos _ (by omega)⟩
      generalize hs : (m / 5).fmod (f.length : Int) = s at s0 ⊢
      have hT : T.length = 11 := by rw [len_cs, t1]
      have tk1 : ∀ k : Int, 0 ≤ k → cs (cutS T none (some k)) = (cs T).take k.toNat := fun k hk => by
        rw [cutS_cs, HT.sIx_none, List.drop_zero]
        show (cs T).take ((if k < 0 then _ else min k.toNat (cs T).length) - 0) = _
        rw [if_neg (by omega), Nat.sub_zero, t1]
        by_cases hh : k.toNat ≤ 11
        · rw [Nat.min_eq_left hh]
        · rw [Nat.min_eq_right (by omega), List.take_of_length_le (by omega), List.take_of_length_le (by omega)]
      have fget : ∀ k : Int, 0 ≤ k → k < (cs f).length → ∃ c, (cs f)[k.toNat]? = some c ∧ c ∈ cs f := fun k h1 h2 => ⟨_, List.getElem?_eq_getElem (by omega), List.getElem_mem _⟩
      have fl : f.length ≤ sizeLine := by rw [sizeLine_eq]; omega
      have gD : ∀ k c0, (cs f)[k]? = some c0 → (cs f).getD k 0 = c0 := fun k c0 e => by rw [List.getD_eq_getElem?_getD, e]; rfl
      split
      · rename_i z3
        obtain ⟨c0, hc0, mc0⟩ := fget s s0.1 s0.2
        refine ⟨by omega, by omega, lc_all (fun i d => ∃ w : Str, d = .str w ∧ cs w = c0 :: (cs T).take i) (by rw [rng_len]; omega) (fun i x hx K N hk => ?_) fun acc b1 b2 => ?_⟩
        · obtain ⟨hi, rfl⟩ := rng_at hx
          simp! [dSeq]
          rw [oIx_s (n := s.toNat) (by omega) hc0]
          have hc := cutS_length T none (some (0 + (i : Int)))
          refine ⟨fl, by omega, ?_⟩
          simp! [one_len]
          refine ⟨by omega, hk _ ⟨_, rfl, ?_⟩⟩
          rw [cs_app, tk1 _ (by omega), cs_one]
          simp
        · rw [rng_len] at b1
          refine fin (fun i => c0 :: (cs T).take i) (fun i hi => ⟨by simp; omega, ?_, c0, _, rfl, mc0⟩) (fun i j hi hj e => ?_) (fun i => by unfold nmG; rw [if_pos z3, hs, gD _ _ hc0, tT]) acc b1 b2
          · intro c hc
            rcases List.mem_cons.mp hc with e | e
            · rw [e]; exact fa _ mc0
            · exact t2 c (List.mem_of_mem_take e)
          · have := congrArg List.length e
            simp only [List.length_cons, List.length_take, t1] at this
            omega
      · rename_i z3
        split
        · rename_i z4
          refine ⟨sm _ (by decide) (by decide), by omega, by omega, lc_all (fun i d => ∃ w : Str, d = .str w ∧ cs w = (cs f).getD ((s + i) % (cs f).length).toNat 0 :: (cs T).take (m / 3 % 12).toNat) (by rw [rng_len]; omega) (fun i x hx K N hk => ?_) fun acc b1 b2 => ?_⟩
          · obtain ⟨hi, rfl⟩ := rng_at hx
            simp! [dSeq]
            have e1 : (s + (0 + (i : Int))).fmod (f.length : Int) = (s + i) % ((cs f).length : Int) := by
              rw [Int.fmod_eq_emod_of_nonneg _ (by omega), fz, Int.zero_add]
            have r0 := Int.emod_nonneg (s + i) (show ((cs f).length : Int) ≠ 0 by omega)
            have r1 := Int.emod_lt_of_pos (s + i) (show (0 : Int) < (cs f).length by omega)
            obtain ⟨c0, hc0, mc0⟩ := fget _ r0 r1
            have hc := cutS_length T none (some (m / 3 % 12))
            refine ⟨by omega, by omega, ?_⟩
            rw [e1, oIx_s (n := ((s + i) % ((cs f).length : Int)).toNat) (by omega) hc0]
            refine ⟨fl, by omega, ?_⟩
            simp! [one_len]
            refine ⟨by omega, hk _ ⟨_, rfl, ?_⟩⟩
            rw [cs_app, tk1 _ (by omega), List.getD_eq_getElem?_getD, hc0, cs_one]
            simp
          · rw [rng_len] at b1
            have hd : ∀ i : Nat, ∃ c, (cs f)[((s + i) % ((cs f).length : Int)).toNat]? = some c ∧ c ∈ cs f := fun i => fget _ (Int.emod_nonneg _ (by omega)) (Int.emod_lt_of_pos _ (by omega))
            refine fin (fun i => (cs f).getD ((s + i) % (cs f).length).toNat 0 :: (cs T).take (m / 3 % 12).toNat) (fun i hi => ⟨by simp; omega, ?_, _, _, rfl, ?_⟩) (fun i j hi hj e => ?_) (fun i => by unfold nmG; rw [if_neg z3, if_pos z4, hs, tT]) acc b1 b2
            · intro c hc
              rcases List.mem_cons.mp hc with e | e
              · obtain ⟨c0, hc0, mc0⟩ := hd i
                rw [e, List.getD_eq_getElem?_getD, hc0]; exact fa _ mc0
              · exact t2 c (List.mem_of_mem_take e)
            · obtain ⟨c0, hc0, mc0⟩ := hd i
              rw [List.getD_eq_getElem?_getD, hc0]; exact mc0
            · injection e with e _
              have x0 := Int.emod_nonneg (s + i) (show ((cs f).length : Int) ≠ 0 by omega)
              have x1 := Int.emod_lt_of_pos (s + i) (show (0 : Int) < (cs f).length by omega)
              have y0 := Int.emod_nonneg (s + j) (show ((cs f).length : Int) ≠ 0 by omega)
              have y1 := Int.emod_lt_of_pos (s + j) (show (0 : Int) < (cs f).length by omega)
              have e2 := getD_inj fn (by omega) (by omega) e
              have := mod_inj (s := s) (a := i) (b := j) (L := (cs f).length) (by omega) ⟨by omega, by omega⟩ ⟨by omega, by omega⟩ (by omega)
              omega
        · rename_i z4
          have z0 : 0 ≤ m / 3 % 11 ∧ m / 3 % 11 < 11 := by omega
          have a0 : 0 ≤ (m / 33).fmod (m / 3 % 11 + 1) ∧ (m / 33).fmod (m / 3 % 11 + 1) ≤ m / 3 % 11 := by
            rw [Int.fmod_eq_emod_of_nonneg _ (by omega)]
            have h1 := Int.emod_nonneg (m / 33) (show m / 3 % 11 + 1 ≠ 0 by omega)
            have h2 := Int.emod_lt_of_pos (m / 33) (show 0 < m / 3 % 11 + 1 by omega)
            omega
          generalize ha : (m / 33).fmod (m / 3 % 11 + 1) = at' at a0 ⊢
          generalize hz : m / 3 % 11 = z at z0 a0 ⊢
          obtain ⟨c0, hc0, mc0⟩ := fget s s0.1 s0.2
          have sl : (Str.ofString "abcdefghijklmnopqrstuvwxyz0123456789ABCDEFGHIJKLMNOPQRSTUVWXYZ").length ≤ sizeLine := by rw [len_cs, show (cs (Str.ofString "abcdefghijklmnopqrstuvwxyz0123456789ABCDEFGHIJKLMNOPQRSTUVWXYZ")).length = 62 from sgs_len, sizeLine_eq]; decide
          have rget : ∀ k : Int, 0 ≤ k → k < 62 → (cs sgs)[k.toNat]? = some ((cs sgs).getD k.toNat 0) := fun k h1 h2 => by
            have := sgs_len
            rw [List.getD_eq_getElem?_getD, List.getElem?_eq_getElem (by omega)]; rfl
          refine ⟨sm _ (by decide) (by decide), sm _ (by decide) (by decide), by omega, by omega, by omega, lc_all (fun i d => d = .str ⟨#[(cs sgs).getD ((m / 7 + i) % 62).toNat 0]⟩) (by rw [rng_len]; omega) (fun i x hx K N hk => ?_) fun acc2 b1 b2 => ?_⟩
          · obtain ⟨hi, rfl⟩ := rng_at hx
            simp! [dSeq]
            rw [Int.zero_add]
            refine ⟨sm _ (by decide) (by decide), ?_⟩
            rw [oIx_s (z := Str.ofString "abcdefghijklmnopqrstuvwxyz0123456789ABCDEFGHIJKLMNOPQRSTUVWXYZ") (i := (m / 7 + (i : Int)) % 62) (n := ((m / 7 + (i : Int)) % 62).toNat) (by omega) (rget _ (by omega) (by omega))]
            exact ⟨sl, hk _ rfl⟩
          · rw [rng_len] at b1
            simp! [dLc]
            refine lc_all (fun i d => ∃ w : Str, d = .str w ∧ cs w = c0 :: ((cs T).take at'.toNat ++ [(cs sgs).getD ((m / 7 + i) % 62).toNat 0] ++ ((cs T).drop at'.toNat).take (z.toNat - at'.toNat))) (by omega) (fun i x hx K N hk => ?_) fun acc3 d1 d2 => ?_
            · have e1 := b2 i x hx
              subst e1
              simp! [dSeq]
              rw [oIx_s (n := s.toNat) (by omega) hc0]
              have q1 := cutS_length T none (some at')
              have q2 := cutS_length T (some at') (some z)
              refine ⟨fl, by omega, ?_⟩
              simp! [one_len, app_len]
              refine ⟨by omega, by omega, by omega, by omega, hk _ ⟨_, rfl, ?_⟩⟩
              rw [cs_app, cs_app, cs_app, tk1 _ (by omega), cs_one, cs_one, cutS_cs]
              have e1 : HT.sIx (cs T).length 0 (some at') = at'.toNat := by
                show (if at' < 0 then _ else min at'.toNat (cs T).length) = _
                rw [if_neg (by omega), t1]; omega
              have e2 : HT.sIx (cs T).length (cs T).length (some z) = z.toNat := by
                show (if z < 0 then _ else min z.toNat (cs T).length) = _
                rw [if_neg (by omega), t1]; omega
              rw [e1, e2]
              simp
            · refine fin (fun i => c0 :: ((cs T).take at'.toNat ++ [(cs sgs).getD ((m / 7 + i) % 62).toNat 0] ++ ((cs T).drop at'.toNat).take (z.toNat - at'.toNat))) (fun i hi => ⟨by simp; omega, ?_, c0, _, rfl, mc0⟩) (fun i j hi hj e => ?_) (fun i => by unfold nmG; rw [if_neg z3, if_neg z4, hs, ha, hz, gD _ _ hc0, tT]) acc3 (by omega) d2
              · intro c hc
                have e3 := rget ((m / 7 + i) % 62) (by omega) (by omega)
                simp only [List.mem_cons, List.mem_append, List.not_mem_nil, or_false] at hc
                rcases hc with e | (e | e) | e
                · rw [e]; exact fa _ mc0
                · exact t2 c (List.mem_of_mem_take e)
                · rw [e]; exact sgs_an _ (List.mem_of_getElem? e3)
                · exact t2 c (List.mem_of_mem_drop (List.mem_of_mem_take e))
              · have e4 := (List.cons.inj e).2
                rw [List.append_assoc, List.append_assoc] at e4
                have e5 := List.append_cancel_left e4
                have e6 := (List.cons.inj e5).1
                have sl2 := sgs_len
                have e7 := getD_inj sgs_nd (by omega) (by omega) e6
                have := mod_inj (s := m / 7) (a := i) (b := j) (L := 62) (by omega) ⟨by omega, by omega⟩ ⟨by omega, by omega⟩ (by omega)
                omega
  · exact h.elim
end
section
def pl : Nat → D → Bool
  | _, .non => true
  | _, .int _ => true
  | _, .str x => PySem.PyData.strOk x
  | n + 1, .lst xs => xs.all (pl n)
  | n + 1, .tup xs => xs.all (pl n)
  | _, _ => false
theorem pyL_map : ∀ xs : List D, pyL xs = xs.map D.py
  | [] => rfl
  | x :: xs => by show x.py :: pyL xs = _; rw [pyL_map xs]; rfl
theorem canAll {xs : List PyData} (h : ∀ x ∈ xs, PyData.canLay0 x = true) : PyData.canLayAll0 xs = true := by
  induction xs with
  | nil => simp [PyData.canLayAll0]
  | cons x xs ih =>
    unfold PyData.canLayAll0
    rw [h x List.mem_cons_self, ih fun y hy => h y (List.mem_cons_of_mem _ hy)]; rfl
theorem depAll {n : Nat} {xs : List PyData} (h : ∀ x ∈ xs, PyData.depth x ≤ n) : PyData.depthAll xs ≤ n := by
  induction xs with
  | nil => simp [PyData.depthAll]
  | cons x xs ih =>
    unfold PyData.depthAll
    have h1 := h x List.mem_cons_self
    have h2 := ih fun y hy => h y (List.mem_cons_of_mem _ hy)
    omega
theorem pl_ok : ∀ (n : Nat) (d : D), pl n d = true → PyData.canLay0 d.py = true ∧ PyData.depth d.py ≤ n
  | n, .non, _ => ⟨by simp [D.py, PyData.canLay0], by simp [D.py, PyData.depth]⟩
  | n, .int _, _ => ⟨by simp [D.py, PyData.canLay0], by simp [D.py, PyData.depth]⟩
  | n, .str x, h => ⟨by
      have h : PyData.strOk x = true := by cases n <;> exact h
      simp [D.py, PyData.canLay0, h], by simp [D.py, PyData.depth]⟩
  | n + 1, .lst xs, h => by
    have h : ∀ d ∈ xs, pl n d = true := List.all_eq_true.mp h
    have hc : ∀ x ∈ pyL xs, PyData.canLay0 x = true ∧ PyData.depth x ≤ n := fun x hx => by
      rw [pyL_map] at hx
      obtain ⟨d, hd, rfl⟩ := List.mem_map.mp hx
      exact pl_ok n d (h d hd)
    constructor
    · show PyData.canLay0 (.list (pyL xs)) = true
      unfold PyData.canLay0
      exact canAll fun x hx => (hc x hx).1
    · show PyData.depth (.list (pyL xs)) ≤ n + 1
      unfold PyData.depth
      have := depAll fun x hx => (hc x hx).2
      omega
  | n + 1, .tup xs, h => by
    have h : ∀ d ∈ xs, pl n d = true := List.all_eq_true.mp h
    have hc : ∀ x ∈ pyL xs, PyData.canLay0 x = true ∧ PyData.depth x ≤ n := fun x hx => by
      rw [pyL_map] at hx
      obtain ⟨d, hd, rfl⟩ := List.mem_map.mp hx
      exact pl_ok n d (h d hd)
    constructor
    · show PyData.canLay0 (.tuple (pyL xs)) = true
      unfold PyData.canLay0
      exact canAll fun x hx => (hc x hx).1
    · show PyData.depth (.tuple (pyL xs)) ≤ n + 1
      unfold PyData.depth
      have := depAll fun x hx => (hc x hx).2
      omega
  | 0, .lst _, h => by cases h
  | 0, .tup _, h => by cases h
  | 0, .bl _, h => by cases h
  | n + 1, .bl _, h => by cases h
  | 0, .obj _ _, h => by cases h
  | n + 1, .obj _ _, h => by cases h
  | 0, .ref _, h => by cases h
  | n + 1, .ref _, h => by cases h
  | 0, .ty _, h => by cases h
  | n + 1, .ty _, h => by cases h
  | 0, .cls _, h => by cases h
  | n + 1, .cls _, h => by cases h
  | 0, .exc _, h => by cases h
  | n + 1, .exc _, h => by cases h
  | 0, .dic _ _, h => by cases h
  | n + 1, .dic _ _, h => by cases h
theorem pl_sh {n : Nat} {d : D} (h : pl n d = true) (hn : n ≤ 200) : shp d.py = true := by
  obtain ⟨h1, h2⟩ := pl_ok n d h
  unfold shp
  rw [h1, decide_eq_true (by omega)]; rfl
theorem eqvAll_iff {n : Nat} (ih : ∀ d e : D, pl n d = true → pl n e = true → (PyData.eqv d.py e.py = true ↔ d = e)) : ∀ {xs ys : List D}, (∀ d ∈ xs, pl n d = true) → (∀ d ∈ ys, pl n d = true) → (PyData.eqvAll (pyL xs) (pyL ys) = true ↔ xs = ys)
  | [], [], _, _ => by simp [pyL, PyData.eqvAll]
  | [], y :: ys, _, _ => by simp [pyL, PyData.eqvAll]
  | x :: xs, [], _, _ => by simp [pyL, PyData.eqvAll]
  | x :: xs, y :: ys, h1, h2 => by
    have a := ih x y (h1 _ List.mem_cons_self) (h2 _ List.mem_cons_self)
    have b := eqvAll_iff ih (xs := xs) (ys := ys) (fun d hd => h1 d (List.mem_cons_of_mem _ hd)) fun d hd => h2 d (List.mem_cons_of_mem _ hd)
    show PyData.eqvAll (x.py :: pyL xs) (y.py :: pyL ys) = true ↔ _
    unfold PyData.eqvAll
    rw [Bool.and_eq_true, a, b, List.cons.injEq]
theorem eqv_iff : ∀ (n : Nat) (d e : D), pl n d = true → pl n e = true → (PyData.eqv d.py e.py = true ↔ d = e)
  | 0, d, e, h1, h2 => by
    cases d <;> first | (cases h1; done) | skip
    all_goals cases e <;> first | (cases h2; done) | simp [D.py, PyData.eqv]
  | n + 1, d, e, h1, h2 => by
    have ih := eqv_iff n
    cases d <;> first | (cases h1; done) | skip
    all_goals cases e <;> first | (cases h2; done) | (simp [D.py, PyData.eqv]; done) | skip
    · have := eqvAll_iff ih (List.all_eq_true.mp h1) (List.all_eq_true.mp h2)
      simp only [D.py, PyData.eqv, this, D.lst.injEq]
    · have := eqvAll_iff ih (List.all_eq_true.mp h1) (List.all_eq_true.mp h2)
      simp only [D.py, PyData.eqv, this, D.tup.injEq]
end
section
def okS (w : Str) : Prop := PySem.PyData.strOk w = true ∧ (cs w).length ≤ 100
theorem okS.sz {w : Str} (h : okS w) : sz w := by unfold Z.sz; have := h.2; omega
theorem upd_updM {M : Mu} {a : Addr} {o u : Ob} : updM (updM M a o) a u = updM M a u := by
  funext b
  unfold updM
  split <;> rfl
section
variable {n : Int} {es : List D} {K : D → Prop} {M : Mu}
end
end
section
def t_all_words (p_is_word : SpM) : DTS :=
 (dRet (dCB oAll (dCons (dLstOf (dLc (dItC 0) (dgName 1) dYes (dCall p_is_word (dCons (dVar 1) dNil)) [1])) dNil)))
def t_Rule_init (p_is_word : SpM) (p_is_kind : SpM) (p_is_name : SpM) (p_all_words : SpM) : DTS :=
 (dSeq (dIf (dOrT (dNotT (dTru (dCall p_is_word (dCons (dVar 1) dNil)))) (dNotT (dTru (dCall p_is_kind (dCons (dVar 2) dNil))))) (dRaise "NoRule") dNext)
 (dSeq (dIf (dOrT (dNotT (dTst (dChain oLe oLe (dC (.int 1)) (dCB oLen (dCons (dVarR 3) dNil)) (dC (.int 4))))) (dNotT (dTru (dCB oAll (dCons (dLstOf (dLc (dItC 3) (dgName 7) dYes (dCall p_is_name (dCons (dVar 7) dNil)) [7])) dNil))))) (dRaise "NoRule") dNext)
 (dSeq (dIf (dAndT (dTst (dOp oNe (dVarR 5) (dC (.str "")))) (dNotT (dTru (dCall p_is_word (dCons (dVar 5) dNil))))) (dRaise "NoRule") dNext)
 (dSeq (dIf (dAndT (dTst (dOp oNotN (dVarR 6) (dC .non))) (dOrT (dTst (dOp oEq (dCB oLen (dCons (dVarR 6) dNil)) (dC (.int 0)))) (dNotT (dTru (dCall p_all_words (dCons (dVarR 6) dNil)))))) (dRaise "NoRule") dNext)
 (dSeq (dSetF 0 "title" ["Rule"] (dVar 1))
 (dSeq (dSetF 0 "head" ["Rule"] (dVar 2))
 (dSeq (dSetF 0 "parts" ["Rule"] (dCB oTuple1 (dCons (dVarR 3) dNil)))
 (dSeq (dSetF 0 "weight" ["Rule"] (dVar 4))
 (dSeq (dSetF 0 "tag" ["Rule"] (dVar 5))
 (dSeq (dSetF 0 "under" ["Rule"] (dVarP 6))
 (dIf (dTst (dOp oNotN (dVarR 6) (dC .non))) (dSetF 0 "under" ["Rule"] (dCB oTuple1 (dCons (dVarR 6) dNil))) dNext)))))))))))
structure Ru where
  title : Str
  head : Str
  parts : List Str
  weight : Rat
  tag : Str
  under : Option (List Str)
def strT (xs : List Str) : D := .tup (xs.map .str)
def undD : Option (List Str) → D
  | none => .non
  | some us => strT us
def ruF (r : Ru) : List (Str × D) := [("title", .str r.title), ("head", .str r.head), ("parts", strT r.parts), ("weight", fD r.weight), ("tag", .str r.tag), ("under", undD r.under)]
def ruD (r : Ru) : D := .obj "Rule" (ruF r)
def partsB (ps : List Str) : Bool := decide (1 ≤ ps.length ∧ ps.length ≤ 4) && ps.all nameB
def tagB (g : Str) : Bool := decide (g = "") || wordB g
def underB : Option (List Str) → Bool
  | none => true
  | some us => decide (us ≠ []) && us.all wordB
def ruGood (r : Ru) : Bool := wordB r.title && (kindB r.head && (partsB r.parts && (tagB r.tag && underB r.under)))
structure RuOk (r : Ru) : Prop where
  t : okS r.title
  h : okS r.head
  p : ∀ x ∈ r.parts, okS x
  pl : r.parts.length ≤ 1000
  g : okS r.tag
  u : ∀ us, r.under = some us → us.length ≤ 1000 ∧ ∀ x ∈ us, okS x
def seqOf (d : D) (xs : List Str) : Prop := d = .lst (xs.map .str) ∨ d = .tup (xs.map .str)
def undOf (d : D) : Option (List Str) → Prop
  | none => d = .non
  | some us => seqOf d us
def sp_all_words : SpD := fun ds Q _ => match ds with | [d] => ∃ xs, seqOf d xs ∧ xs.length ≤ 1000 ∧ (∀ x ∈ xs, okS x) ∧ Q (.bl (xs.all wordB)) | _ => False
section
variable {G : DTG} {T : DTE} {ws : List Nat} {ρ : List Ent} {M : Mu} {Q : List D → Mu → Prop}
theorem lc_bools (P : Str → Bool) {xs : List Str} (hl : xs.length ≤ 1000000) (h : ∀ x ∈ xs, ∀ (K : D → Mu → Prop), K (.bl (P x)) M → G (.str x) (wipeE ρ ws) fun ρ2 => T ρ2 M K (fun _ _ => False))
    (hq : Q (xs.map fun x => D.bl (P x)) M) : dLcI G dYes T ws (xs.map .str) ρ M Q := by
  have e : (xs.map D.str).map (fun d => match d with | .str x => D.bl (P x) | d => d) = xs.map fun x => D.bl (P x) := by rw [List.map_map]; rfl
  refine lc_map (fun d => match d with | .str x => D.bl (P x) | d => d) (by rw [List.length_map]; exact hl) (fun x hx K N hK => ?_) (by rw [e]; exact hq)
  obtain ⟨y, hy, rfl⟩ := List.mem_map.mp hx
  exact h y hy K hK
end
theorem oAll_bls {P : Str → Bool} {xs : List Str} {Q : D → Prop} : oAll [.lst (xs.map fun x => D.bl (P x))] Q = Q (.bl (xs.all P)) := by
  have e : bls (xs.map fun x => D.bl (P x)) = some (xs.map P) := by
    have := bls_map (xs.map P)
    rw [List.map_map] at this
    exact this
  have e2 : (xs.map P).all id = xs.all P := by rw [List.all_map]; rfl
  exact propext ⟨fun ⟨bs, h1, h2⟩ => by rw [e] at h1; cases h1; rw [e2] at h2; exact h2, fun h => ⟨_, e, by rw [e2]; exact h⟩⟩
theorem r_all_words (ds M Q E) (h : pur sp_all_words ds M Q E) : t_all_words (pur sp_is_word) (endsOf Q E) (startE [true] 2 ds) M := by
  obtain ⟨d, rfl, xs, hd, hl, ho, h'⟩ := sp1 h
  clear h
  rcases hd with rfl | rfl
  all_goals
    simp! [t_all_words]
    refine lc_bools wordB (by omega) (fun x hx K hK => ?_) ?_
    · simp! [sp_is_word]
      exact ⟨(ho x hx).sz, hK⟩
    · simp! [oAll_bls]
      exact h'
def sp_Rule_init : SpM := fun ds M Q E => match ds with
  | [.ref a, .str t, .str h, ps, w, .str g, u] => M a = some (.ins "Rule" []) ∧ ∃ r : Ru, r.title = t ∧ r.head = h ∧ seqOf ps r.parts ∧ w = fD r.weight ∧ r.tag = g ∧ undOf u r.under ∧ RuOk r ∧ (if ruGood r = true then Q .non (updM M a (.ins "Rule" (ruF r))) else E "NoRule" M)
  | _ => False
theorem r_Rule_init (ds M Q E) (h : sp_Rule_init ds M Q E) : t_Rule_init (pur sp_is_word) (pur sp_is_kind) (pur sp_is_name) (pur sp_all_words) (endsOf Q E) (startE [false, false, false, true, false, false, true] 8 ds) M := by
  unfold sp_Rule_init at h
  split at h
  · rename_i a t hd ps w g u
    obtain ⟨hM, r, rfl, rfl, hp, rfl, rfl, hu, ok, h⟩ := h
    have bad : ruGood r = false → E "NoRule" M := fun z => by rw [z, if_neg (by simp)] at h; exact h
    have hu' : (r.under = none ∧ u = .non) ∨ ∃ us, r.under = some us ∧ (u = .lst (us.map .str) ∨ u = .tup (us.map .str)) := by
      cases z : r.under with
      | none => rw [z] at hu; exact .inl ⟨rfl, hu⟩
      | some us => rw [z] at hu; exact .inr ⟨us, rfl, hu⟩
    have g1 : ∀ b, wordB r.title = b → b = false → E "NoRule" M := fun b e z => bad (by unfold ruGood; rw [e, z]; rfl)
    have g2 : kindB r.head = false → E "NoRule" M := fun e => bad (by unfold ruGood; rw [e]; simp)
    have g3 : partsB r.parts = false → E "NoRule" M := fun e => bad (by unfold ruGood; rw [e]; simp)
    have g4 : tagB r.tag = false → E "NoRule" M := fun e => bad (by unfold ruGood; rw [e]; simp)
    have g5 : underB r.under = false → E "NoRule" M := fun e => bad (by unfold ruGood; rw [e]; simp)
    have g6 : wordB r.title = true → kindB r.head = true → partsB r.parts = true → tagB r.tag = true → underB r.under = true → Q .non (updM M a (.ins "Rule" (ruF r))) := fun a1 a2 a3 a4 a5 => by
      have : ruGood r = true := by unfold ruGood; rw [a1, a2, a3, a4, a5]; rfl
      rw [this, if_pos rfl] at h
      exact h
    clear h bad
    rcases hp with rfl | rfl <;> rcases hu' with ⟨hun, rfl⟩ | ⟨us, hun, rfl | rfl⟩
    all_goals
      simp! [t_Rule_init, sp_is_word, sp_is_kind, List.length_map]
      refine ⟨ok.t.sz, ?_⟩
      cases h1 : wordB r.title with
      | false => exact g1 _ h1 rfl
      | true =>
        simp only [Bool.true_eq_false, if_false]
        refine ⟨ok.h.sz, ?_⟩
        cases h2 : kindB r.head with
        | false => exact g2 h2
        | true =>
          simp only [Bool.true_eq_false, if_false]
          by_cases l1 : (1 : Int) ≤ (r.parts.length : Int)
          · by_cases l2 : (r.parts.length : Int) ≤ 4
            · rw [if_pos l1, if_pos l2]
              refine lc_bools nameB (by have := ok.pl; omega) (fun x hx K hK => ?_) ?_
              · simp! [sp_is_name]
                exact ⟨(ok.p x hx).sz, hK⟩
              · simp! [oAll_bls]
                cases h3 : r.parts.all nameB with
                | false => exact g3 (by unfold partsB; rw [h3, Bool.and_false])
                | true =>
                  have h3' : partsB r.parts = true := by unfold partsB; rw [h3, decide_eq_true (by omega)]; rfl
                  simp only [Bool.true_eq_false, if_false]
                  simp! [hM, upd_updM]
                  have tl : tagB r.tag = true → (underB r.under = true → Q .non (updM M a (.ins "Rule" (ruF r)))) := fun ht => g6 h1 h2 h3' ht
                  have fin : tagB r.tag = true → (match r.under with
                    | none => Q .non (updM M a (.ins "Rule" (ruF r)))
                    | some us => if (us.length : Int) = 0 then E "NoRule" M else us.length ≤ 1000 ∧ (∀ x ∈ us, okS x) ∧ (if us.all wordB = false then E "NoRule" M else Q .non (updM M a (.ins "Rule" (ruF r))))) := fun ht => by
                    have tl := tl ht
                    cases z : r.under with
                    | none => exact tl (by rw [z]; rfl)
                    | some us =>
                      dsimp only
                      by_cases h0 : (us.length : Int) = 0
                      · rw [if_pos h0]
                        exact g5 (by rw [z]; show (decide (us ≠ []) && us.all wordB) = _; rw [decide_eq_false (by simp; exact List.length_eq_zero_iff.mp (by omega))]; rfl)
                      · rw [if_neg h0]
                        obtain ⟨u1, u2⟩ := ok.u us z
                        refine ⟨u1, u2, ?_⟩
                        cases h5 : us.all wordB with
                        | false => exact g5 (by rw [z]; show (decide (us ≠ []) && us.all wordB) = _; rw [h5, Bool.and_false])
                        | true => exact tl (by rw [z]; show (decide (us ≠ []) && us.all wordB) = _; rw [h5, decide_eq_true (show us ≠ [] from fun y => h0 (by rw [y]; rfl))]; rfl)
                  unfold ruF at fin
                  rw [hun] at fin
                  dsimp only at fin
                  by_cases ht : r.tag = ""
                  · rw [if_pos ht]
                    have fin := fin (by unfold tagB; rw [decide_eq_true ht]; rfl)
                    first
                      | exact fin
                      | (split
                         · rename_i y; rw [if_pos y] at fin; exact fin
                         · rename_i y
                           rw [if_neg y] at fin
                           obtain ⟨f1, f2, f3⟩ := fin
                           refine ⟨us, ?_, f1, f2, ?_⟩
                           · first | exact .inl rfl | exact .inr rfl
                           · simp! [dSeq]
                             split
                             · rename_i y; rw [if_pos y] at f3; exact f3
                             · rename_i y; rw [if_neg y] at f3; first | exact f3 | exact fun _ => f3)
                  · rw [if_neg ht]
                    refine ⟨ok.g.sz, ?_⟩
                    cases h4 : wordB r.tag with
                    | false => exact g4 (by unfold tagB; rw [h4, decide_eq_false ht]; rfl)
                    | true =>
                      have fin := fin (by unfold tagB; rw [h4, Bool.or_true])
                      simp only [Bool.true_eq_false, if_false]
                      first
                      | exact fin
                      | (split
                         · rename_i y; rw [if_pos y] at fin; exact fin
                         · rename_i y
                           rw [if_neg y] at fin
                           obtain ⟨f1, f2, f3⟩ := fin
                           refine ⟨us, ?_, f1, f2, ?_⟩
                           · first | exact .inl rfl | exact .inr rfl
                           · simp! [dSeq]
                             split
                             · rename_i y; rw [if_pos y] at f3; exact f3
                             · rename_i y; rw [if_neg y] at f3; first | exact f3 | exact fun _ => f3)
            · rw [if_pos l1, if_neg l2]
              exact g3 (by unfold partsB; rw [decide_eq_false (by omega)]; rfl)
          · rw [if_neg l1]
            exact g3 (by unfold partsB; rw [decide_eq_false (by omega)]; rfl)
  · exact h.elim
section
variable {r : Ru} {K : D → Prop} {M : Mu}
theorem drf_ru : drf M (ruD r) = ruD r := rfl
theorem fld_title : fldD "title" ["Rule"] (ruD r) K = K (.str r.title) := propext ⟨fun ⟨_, x, e, h⟩ => by cases e; exact h, fun h => ⟨by simp, _, rfl, h⟩⟩
theorem fld_head : fldD "head" ["Rule"] (ruD r) K = K (.str r.head) := propext ⟨fun ⟨_, x, e, h⟩ => by cases e; exact h, fun h => ⟨by simp, _, rfl, h⟩⟩
theorem fld_parts : fldD "parts" ["Rule"] (ruD r) K = K (strT r.parts) := propext ⟨fun ⟨_, x, e, h⟩ => by cases e; exact h, fun h => ⟨by simp, _, rfl, h⟩⟩
theorem fld_weight : fldD "weight" ["Rule"] (ruD r) K = K (fD r.weight) := propext ⟨fun ⟨_, x, e, h⟩ => by cases e; exact h, fun h => ⟨by simp, _, rfl, h⟩⟩
theorem fld_tag : fldD "tag" ["Rule"] (ruD r) K = K (.str r.tag) := propext ⟨fun ⟨_, x, e, h⟩ => by cases e; exact h, fun h => ⟨by simp, _, rfl, h⟩⟩
theorem fld_under : fldD "under" ["Rule"] (ruD r) K = K (undD r.under) := propext ⟨fun ⟨_, x, e, h⟩ => by cases e; exact h, fun h => ⟨by simp, _, rfl, h⟩⟩
end
def titlesOf (rs : List Ru) : List Str := rs.map (·.title)
theorem del_up {M : Mu} {a : Addr} {o : Ob} (h : M a = none) : delM (updM M a o) a = M := del_upd h
def headsOf (rs : List Ru) : List Str := rs.map (·.head)
abbrev Stp := List (Str × List Str)
def addS (st : Stp) (h p : Str) : Stp := if (st.any fun q => decide (q.1 = h)) = true then st.map (fun q => if q.1 = h then (q.1, q.2 ++ [p]) else q) else st ++ [(h, [p])]
def stepOf (st : Stp) (r : Ru) : Stp := match r.parts with | [p] => if kindB p = true then addS st r.head p else st | _ => st
def stepsOf (rs : List Ru) : Stp := rs.foldl stepOf []
def succ (st : Stp) (k : Str) : List Str := ((st.find? fun q => decide (q.1 = k)).map (·.2)).getD []
inductive Lead (st : Stp) : Str → Str → Prop
  | one {a b : Str} : b ∈ succ st a → Lead st a b
  | more {a b c : Str} : Lead st a b → c ∈ succ st b → Lead st a c
abbrev Tri := Str × Addr × List Str
def trD (tr : List Tri) : List (D × D) := tr.map fun t => (.str t.1, .ref t.2.1)
structure SK (M M' : Mu) (a : Addr) (tr : List Tri) : Prop where
  le : leM M M'
  fa : M a = none
  dc : M' a = some (.dic false (trD tr))
  ent : ∀ t ∈ tr, M t.2.1 = none ∧ t.2.1 ≠ a ∧ M' t.2.1 = some (.lst (t.2.2.map .str))
  nb : (tr.map (·.2.1)).Nodup
  nh : (tr.map (·.1)).Nodup
theorem leM.updO {M M' : Mu} {b : Addr} {o : Ob} (h : leM M M') (hb : M b = none) : leM M (updM M' b o) := fun c ob z => by
  by_cases e : c = b
  · rw [e, hb] at z; cases z
  · show (if c = b then some o else M' c) = _
    rw [if_neg e]; exact h c ob z
theorem leM.none {M M' : Mu} {b : Addr} (h : leM M M') (hb : M' b = none) : M b = none := by
  cases z : M b with
  | none => rfl
  | some o => rw [h b o z] at hb; cases hb
theorem upd_at {M : Mu} {a : Addr} {o : Ob} : updM M a o a = some o := by show (if a = a then some o else M a) = _; rw [if_pos rfl]
theorem upd_ne {M : Mu} {a b : Addr} {o : Ob} (h : b ≠ a) : updM M a o b = M b := by show (if b = a then some o else M b) = _; rw [if_neg h]
theorem nodup_one {α β : Type} {f : α → β} : ∀ {l : List α}, (l.map f).Nodup → ∀ {x y : α}, x ∈ l → y ∈ l → f x = f y → x = y
  | [], _, _, _, hx, _, _ => nomatch hx
  | z :: l, hn, x, y, hx, hy, e => by
    rw [List.map_cons, List.nodup_cons] at hn
    rcases List.mem_cons.mp hx with rfl | hx
    · rcases List.mem_cons.mp hy with rfl | hy
      · rfl
      · exact absurd (List.mem_map.mpr ⟨y, hy, e.symm⟩) hn.1
    · rcases List.mem_cons.mp hy with rfl | hy
      · exact absurd (show f y ∈ l.map f from List.mem_map.mpr ⟨x, by assumption, e⟩) hn.1
      · exact nodup_one hn.2 hx hy e
def addT (tr : List Tri) (h p : Str) : List Tri := tr.map fun t => if t.1 = h then (t.1, t.2.1, t.2.2 ++ [p]) else t
theorem SK.old {M M' : Mu} {a : Addr} {tr : List Tri} (k : SK M M' a tr) {t : Tri} (ht : t ∈ tr) {h p : Str} (e : t.1 = h) : SK M (updM M' t.2.1 (.lst (t.2.2.map .str ++ [.str p]))) a (addT tr h p) := by
  have e1 : (addT tr h p).map (·.2.1) = tr.map (·.2.1) := by
    unfold addT; rw [List.map_map]
    exact List.map_congr_left fun u _ => by show (if u.1 = h then (u.1, u.2.1, u.2.2 ++ [p]) else u).2.1 = _; split <;> rfl
  have e2 : (addT tr h p).map (·.1) = tr.map (·.1) := by
    unfold addT; rw [List.map_map]
    exact List.map_congr_left fun u _ => by show (if u.1 = h then (u.1, u.2.1, u.2.2 ++ [p]) else u).1 = _; split <;> rfl
  have e3 : trD (addT tr h p) = trD tr := by
    unfold addT trD; rw [List.map_map]
    exact List.map_congr_left fun u _ => by
      show (D.str (if u.1 = h then (u.1, u.2.1, u.2.2 ++ [p]) else u).1, D.ref (if u.1 = h then (u.1, u.2.1, u.2.2 ++ [p]) else u).2.1) = _
      split <;> rfl
  obtain ⟨t1, t2, t3⟩ := k.ent t ht
  refine ⟨k.le.updO t1, k.fa, ?_, fun u hu => ?_, by rw [e1]; exact k.nb, by rw [e2]; exact k.nh⟩
  · rw [upd_ne (Ne.symm t2), e3]; exact k.dc
  · unfold addT at hu
    obtain ⟨v, hv, rfl⟩ := List.mem_map.mp hu
    obtain ⟨v1, v2, v3⟩ := k.ent v hv
    by_cases z : v.1 = h
    · have : v = t := nodup_one k.nh hv ht (by rw [z, e])
      subst this
      rw [if_pos z]
      exact ⟨v1, v2, by rw [upd_at]; simp⟩
    · rw [if_neg z]
      refine ⟨v1, v2, ?_⟩
      rw [upd_ne (fun y => z ?_)]
      · exact v3
      · have : v = t := nodup_one k.nb hv ht y
        rw [this, e]
theorem SK.new {M M' : Mu} {a : Addr} {tr : List Tri} (k : SK M M' a tr) {b : Addr} (hb : M' b = none) {h p : Str} (e : ∀ t ∈ tr, t.1 ≠ h) : SK M (updM (updM (updM M' b (.lst [])) a (.dic false (trD tr ++ [(.str h, .ref b)]))) b (.lst [.str p])) a (tr ++ [(h, b, [p])]) := by
  have hba : b ≠ a := fun z => by rw [z, k.dc] at hb; cases hb
  have hn : ∀ t ∈ tr, t.2.1 ≠ b := fun t ht z => by have := (k.ent t ht).2.2; rw [z, hb] at this; cases this
  have hMb := k.le.none hb
  refine ⟨((k.le.updO hMb).updO k.fa).updO hMb, k.fa, ?_, fun t ht => ?_, ?_, ?_⟩
  · rw [upd_ne (Ne.symm hba), upd_at]
    unfold trD
    rw [List.map_append]; rfl
  · rcases List.mem_append.mp ht with ht | ht
    · obtain ⟨e1, e2, e3⟩ := k.ent t ht
      exact ⟨e1, e2, by rw [upd_ne (hn t ht), upd_ne e2, upd_ne (hn t ht)]; exact e3⟩
    · rw [List.mem_singleton] at ht
      subst ht
      exact ⟨hMb, hba, by rw [upd_at]; rfl⟩
  · rw [List.map_append, List.nodup_append]
    refine ⟨k.nb, by simp, fun x hx y hy => ?_⟩
    obtain ⟨t, ht, rfl⟩ := List.mem_map.mp hx
    simp only [List.map_cons, List.map_nil, List.mem_singleton] at hy
    rw [hy]; exact hn t ht
  · rw [List.map_append, List.nodup_append]
    refine ⟨k.nh, by simp, fun x hx y hy => ?_⟩
    obtain ⟨t, ht, rfl⟩ := List.mem_map.mp hx
    simp only [List.map_cons, List.map_nil, List.mem_singleton] at hy
    rw [hy]; exact e t ht
theorem succ_cons (q : Str × List Str) (st : Stp) (k : Str) : succ (q :: st) k = if q.1 = k then q.2 else succ st k := by
  unfold succ
  rw [List.find?_cons]
  by_cases h : q.1 = k
  · simp [h]
  · simp [h]
def Ring (rs : List Ru) : Prop := ∃ k, Lead (stepsOf rs) k k
theorem Lead.key {st : Stp} {a b : Str} (h : Lead st a b) : a ∈ st.map (·.1) := by
  have one : ∀ {x y : Str}, y ∈ succ st x → x ∈ st.map (·.1) := fun {x y} hy => by
    unfold succ at hy
    cases z : st.find? fun q => decide (q.1 = x) with
    | none => rw [z] at hy; nomatch hy
    | some q =>
      have h1 := List.mem_of_find?_eq_some z
      have h2 := List.find?_some z
      exact List.mem_map.mpr ⟨q, h1, by simpa using h2⟩
  induction h with
  | one hb => exact one hb
  | more _ _ ih => exact ih
end
section
theorem exists_map {α : Type} {f : α → D} {P : α → Prop} : ∀ {xs : List D}, (∀ d ∈ xs, ∃ a, d = f a ∧ P a) → ∃ as : List α, xs = as.map f ∧ ∀ a ∈ as, P a
  | [], _ => ⟨[], rfl, fun a h => by cases h⟩
  | x :: xs, h => by
    obtain ⟨a, rfl, ha⟩ := h x List.mem_cons_self
    obtain ⟨as, rfl, hs⟩ := exists_map (xs := xs) fun d hd => h d (List.mem_cons_of_mem _ hd)
    exact ⟨a :: as, rfl, fun b hb => by
      rcases List.mem_cons.mp hb with rfl | hb
      · exact ha
      · exact hs b hb⟩
theorem lc_of {α : Type} {G : DTG} {U : DTT} {T : DTE} {ws : List Nat} {ρ : List Ent} {M : Mu} {Q : List D → Mu → Prop} {g f : α → D} {as : List α} (hl : as.length ≤ 1000000) (h : ∀ a ∈ as, ∀ (K : D → Mu → Prop) (N : Mu → Prop), K (f a) M → G (g a) (wipeE ρ ws) fun ρ2 => U ρ2 M (fun b M2 => if b = true then T ρ2 M2 K (fun _ _ => False) else N M2) (fun _ _ => False))
    (hq : Q (as.map f) M) : dLcI G U T ws (as.map g) ρ M Q := by
  refine lc_all (fun i d => ∃ x, as[i]? = some x ∧ d = f x) (by rw [List.length_map]; exact hl) (fun i x hx K N hk => ?_) fun acc h1 h2 => ?_
  · rw [List.getElem?_map] at hx
    obtain ⟨a, ha, rfl⟩ := Option.map_eq_some_iff.mp hx
    exact h a (List.mem_of_getElem? ha) K N (hk _ ⟨a, ha, rfl⟩)
  · have e : acc = as.map f := by
      refine List.ext_getElem? fun i => ?_
      rw [List.length_map] at h1
      rw [List.getElem?_map]
      cases z : acc[i]? with
      | none =>
        have := List.getElem?_eq_none_iff.mp z
        rw [List.getElem?_eq_none (by omega)]; rfl
      | some d =>
        obtain ⟨x, e1, e2⟩ := h2 i d z
        rw [e1, e2]; rfl
    rw [e]; exact hq
end
section
abbrev Prs := List (Nat × Nat)
inductive Reach (ps : Prs) : Nat → Nat → Prop
  | one {a b : Nat} : (a, b) ∈ ps → Reach ps a b
  | more {a b c : Nat} : Reach ps a b → (b, c) ∈ ps → Reach ps a c
theorem Reach.fst {ps : Prs} {a b : Nat} (h : Reach ps a b) : ∃ x, (a, x) ∈ ps := by
  induction h with
  | one h => exact ⟨_, h⟩
  | more _ _ ih => exact ih
def closedP (ps : Prs) (hs : List Nat) : Prop := ∀ a b, (a, b) ∈ ps → a ∈ hs → b ∈ hs
def cnt8 (hs : List Nat) : Nat := ((List.range 8).filter fun x => decide (x ∈ hs)).length
theorem cnt8_le (hs : List Nat) : cnt8 hs ≤ 8 := by
  have := List.length_filter_le (fun x => decide (x ∈ hs)) (List.range 8)
  rw [List.length_range] at this
  exact this
structure Her (ps : Prs) (f : Nat) (t : Nat) (hs : List Nat) : Prop where
  re : ∀ x ∈ hs, Reach ps f x
  di : ∀ x, (f, x) ∈ ps → x ∈ hs
  cl : closedP ps hs ∨ t + 1 ≤ cnt8 hs
  ln : hs.length ≤ 12 * (t + 1)
theorem Her.done {ps : Prs} {f : Nat} {hs : List Nat} (h : Her ps f 8 hs) : f ∈ hs ↔ Reach ps f f := by
  have hc : closedP ps hs := by
    rcases h.cl with z | z
    · exact z
    · have := cnt8_le hs; omega
  refine ⟨h.re f, fun z => ?_⟩
  have all : ∀ x, Reach ps f x → x ∈ hs := fun x hx => by
    induction hx with
    | one hp => exact h.di _ hp
    | more _ hp ih => exact hc _ _ hp ih
  exact all f z
end
section
theorem alnum_lt {c : Nat} (h : alnum c = true) : c < 123 := by
  unfold alnum isSm isGr isFi at h
  simp only [Bool.or_eq_true, decide_eq_true_eq] at h
  omega
theorem okS_of {w : Str} (h1 : ∀ c ∈ cs w, c < 1000) (h2 : (cs w).length ≤ 100) : okS w := ⟨by
  unfold PyData.strOk
  rw [Array.all_eq_true_iff_forall_mem]
  intro c hc
  have := h1 c (by simpa [cs] using hc)
  exact decide_eq_true (by omega), h2⟩
theorem name_cs {w : Str} (h : nameB w = true) : (1 ≤ (cs w).length ∧ (cs w).length ≤ 12) ∧ ∀ c ∈ cs w, alnum c = true := by
  unfold nameB at h
  rw [Bool.and_eq_true, decide_eq_true_eq, List.all_eq_true] at h
  exact h
theorem okS_name {w : Str} (h : nameB w = true) : okS w := by
  obtain ⟨h1, h2⟩ := name_cs h
  exact okS_of (fun c hc => by have := alnum_lt (h2 c hc); omega) (by omega)
theorem cut_mem {z : Str} {a b : Option Int} {c : Nat} (h : c ∈ cs (cutS z a b)) : c ∈ cs z := by
  rw [cutS_cs] at h
  exact List.mem_of_mem_drop (List.mem_of_mem_take h)
theorem cut_len {z : Str} {a b : Option Int} : (cs (cutS z a b)).length ≤ (cs z).length := by rw [← len_cs, ← len_cs]; exact cutS_length z a b
end
section
theorem ix_get {α : Type} {f : α → D} {xs : List α} {i : Int} (h0 : 0 ≤ i) (h1 : i < xs.length) : ∃ x ∈ xs, ∀ Q : D → Prop, oIx (.lst (xs.map f)) (.int i) Q = Q (f x) := by
  have hl : i.toNat < xs.length := by omega
  refine ⟨xs[i.toNat], List.getElem_mem _, fun Q => ?_⟩
  rw [(ix_lt h0 (by rw [List.length_map]; exact h1)).1]
  rw [List.getD_eq_getElem?_getD, List.getElem?_map, List.getElem?_eq_getElem hl]; rfl
structure PartsOk (mode : Int) (hs ks ws : List Str) (head : Str) (pp : List Str) : Prop where
  l1 : 1 ≤ pp.length
  l4 : pp.length ≤ 4
  al : ∀ p ∈ pp, p ∈ ks ∨ p ∈ ws
  he : mode ≠ 4 → mode ≠ 6 → ∀ p ∈ pp, p ∈ hs ∨ p ∈ ws
  up : mode < 5 → ∀ p, pp = [p] → p ∈ ks → ∃ a b : Nat, ks[a]? = some head ∧ ks[b]? = some p ∧ a < b
theorem ne_ll {n : Nat} {xs ys : List D} {Q : D → Prop} (h1 : pl n (.lst xs) = true) (h2 : pl n (.lst ys) = true) (hn : n ≤ 200) (b : Bool) (hb : b = true ↔ xs = ys) : oNe (.lst xs) (.lst ys) Q = Q (.bl (!b)) := by
  have e1 : PyData.eqv (D.lst xs).py (D.lst ys).py = b := by
    rw [Bool.eq_iff_iff, eqv_iff n _ _ h1 h2, hb, D.lst.injEq]
  have s1 := pl_sh h1 hn
  have s2 := pl_sh h2 hn
  exact propext ⟨fun ⟨_, _, q⟩ => by rw [e1] at q; exact q, fun q => ⟨s1, s2, by rw [e1]; exact q⟩⟩
theorem kind_name {w : Str} (h : kindB w = true) : nameB w = true := by unfold kindB at h; rw [Bool.and_eq_true] at h; exact h.1
theorem word_kind {w : Str} (h : wordB w = true) : kindB w = false := by
  unfold wordB at h
  unfold kindB
  rw [Bool.and_eq_true] at h
  rw [h.1]
  have := h.2
  split at this
  · rename_i c r e
    simpa using this
  · cases this
structure RowOk (mode : Int) (sc : Str) (hs ks ws so : List Str) (r : Ru) : Prop where
  ok : RuOk r
  gd : ruGood r = true
  ft : fits 41 r.weight
  wt : mode ≠ 1 → mode ≠ 6 → sc = "chance" → 0 < r.weight.num
  un : mode ≠ 3 → mode ≠ 6 → ∀ us, r.under = some us → ∀ u ∈ us, u ∈ so
  pa : PartsOk mode hs ks ws r.head r.parts
  ul : ∀ us, r.under = some us → us.length ≤ 4
structure Wild (mode : Int) (sc : Str) (ks : List Str) (rs : List Ru) : Prop where
  kl : ks.length = 5
  kn : ks.Nodup
  kk : ∀ k ∈ ks, kindB k = true ∧ okS k
  rl : rs.length ≤ 11
  ru : ∀ r ∈ rs, RuOk r ∧ ruGood r = true ∧ fits 41 r.weight ∧ r.parts.length ≤ 4
  wt : mode ≠ 1 → mode ≠ 6 → sc = "chance" → ∀ r ∈ rs, 0 < r.weight.num
  hd : ∀ r ∈ rs, r.head ∈ ks.take 4
  h0 : ∀ r, rs[0]? = some r → ks[0]? = some r.head
  ti : mode ≠ 2 → mode ≠ 6 → (titlesOf rs).Nodup
  un : mode ≠ 2 → mode ≠ 3 → mode ≠ 6 → ∀ r ∈ rs, ∀ us, r.under = some us → ∀ u ∈ us, u ∈ titlesOf rs
  pa : ∀ r ∈ rs, ∀ p ∈ r.parts, kindB p = true → p ∈ ks
  pk : mode ≠ 4 → mode ≠ 6 → ∀ r ∈ rs, ∀ p ∈ r.parts, kindB p = true → p ∈ headsOf rs
  up : mode < 5 → ∀ r ∈ rs, ∀ p, r.parts = [p] → kindB p = true → ∃ a b : Nat, ks[a]? = some r.head ∧ ks[b]? = some p ∧ a < b
  ul : ∀ r ∈ rs, ∀ us, r.under = some us → us.length ≤ 4
theorem Wild.of {mode : Int} {sc : Str} {ks ws ts hs : List Str} {rs : List Ru} (kl : ks.length = 5) (kn : ks.Nodup) (kk : ∀ k ∈ ks, kindB k = true ∧ okS k) (wk : ∀ w ∈ ws, wordB w = true ∧ okS w) (tn : ts.Nodup) (hl : hs.length ≤ 11) (h4 : ∀ h ∈ hs, h ∈ ks.take 4) (h0 : ∀ h, hs[0]? = some h → ks[0]? = some h)
    (rl : rs.length = hs.length) (ti : mode ≠ 2 → mode ≠ 6 → titlesOf rs = ts.take hs.length) (he : headsOf rs = hs) (ro : ∀ r ∈ rs, RowOk mode sc hs ks ws (ts.take hs.length) r) : Wild mode sc ks rs := by
  have nw : ∀ p ∈ ws, kindB p = true → False := fun p hp hk => by rw [word_kind (wk p hp).1] at hk; cases hk
  refine ⟨kl, kn, kk, by omega, fun r hr => ⟨(ro r hr).ok, (ro r hr).gd, (ro r hr).ft, (ro r hr).pa.l4⟩, fun a b c r hr => (ro r hr).wt a b c, fun r hr => ?_, fun r hr => ?_, fun a b => ?_, fun a b c r hr us z u hu => ?_, fun r hr p hp hk => ?_, fun a b r hr p hp hk => ?_, fun a r hr p hp hk => ?_, fun r hr => (ro r hr).ul⟩
  · exact h4 _ (by rw [← he]; exact List.mem_map.mpr ⟨r, hr, rfl⟩)
  · refine h0 _ ?_
    rw [← he]
    unfold headsOf
    rw [List.getElem?_map, hr]; rfl
  · rw [ti a b]
    exact tn.sublist (List.take_sublist _ _)
  · rw [ti a c]
    exact (ro r hr).un b c us z u hu
  · rcases (ro r hr).pa.al p hp with z | z
    · exact z
    · exact (nw p z hk).elim
  · rw [he]
    rcases (ro r hr).pa.he a b p hp with z | z
    · exact z
    · exact (nw p z hk).elim
  · refine (ro r hr).pa.up a p hp ?_
    rcases (ro r hr).pa.al p (by rw [hp]; simp) with z | z
    · exact z
    · exact (nw p z hk).elim
end
section
end
section
theorem addS_cons (q : Str × List Str) (st : Stp) (h p : Str) : addS (q :: st) h p = if q.1 = h then (q.1, q.2 ++ [p]) :: st.map (fun q => if q.1 = h then (q.1, q.2 ++ [p]) else q) else q :: addS st h p := by
  by_cases z : q.1 = h
  · rw [if_pos z]
    unfold addS
    rw [if_pos (by simp [z])]
    rw [List.map_cons, if_pos z]
  · rw [if_neg z]
    unfold addS
    by_cases y : (st.any fun q => decide (q.1 = h)) = true
    · rw [if_pos y, if_pos (by rw [List.any_cons, y, Bool.or_true]), List.map_cons, if_neg z]
    · rw [if_neg y, if_neg (by rw [List.any_cons, decide_eq_false z, Bool.false_or]; exact y)]; rfl
theorem succ_map (st : Stp) (h p x : Str) (hx : x ≠ h) : succ (st.map (fun q => if q.1 = h then (q.1, q.2 ++ [p]) else q)) x = succ st x := by
  induction st with
  | nil => rfl
  | cons q st ih =>
    rw [List.map_cons, succ_cons, succ_cons, ih]
    by_cases z : q.1 = h
    · rw [if_pos z]
      have : ¬ q.1 = x := fun y => hx (y.symm.trans z)
      rw [if_neg this, if_neg this]
    · rw [if_neg z]
theorem succ_add (st : Stp) (h p x y : Str) : y ∈ succ (addS st h p) x ↔ y ∈ succ st x ∨ (x = h ∧ y = p) := by
  induction st with
  | nil =>
    show y ∈ succ [(h, [p])] x ↔ _
    rw [succ_cons]
    by_cases z : h = x
    · rw [if_pos z]; simp [succ, z.symm]
    · rw [if_neg z]
      have : ¬ x = h := fun w => z w.symm
      simp [succ, this]
  | cons q st ih =>
    rw [addS_cons, succ_cons]
    by_cases z : q.1 = h
    · rw [if_pos z, succ_cons]
      by_cases w : q.1 = x
      · rw [if_pos w, if_pos w]
        have : x = h := w.symm.trans z
        simp [this]
      · rw [if_neg w, if_neg w]
        have hx : x ≠ h := fun y => w (z.trans y.symm)
        show y ∈ succ (st.map _) x ↔ _
        rw [succ_map st h p x hx]
        simp [hx]
    · rw [if_neg z, succ_cons]
      by_cases w : q.1 = x
      · rw [if_pos w, if_pos w]
        have : ¬ x = h := fun y => z (w.trans y)
        simp [this]
      · rw [if_neg w, if_neg w]
        exact ih
def Stepped (rs : List Ru) (x y : Str) : Prop := ∃ r ∈ rs, r.head = x ∧ r.parts = [y] ∧ kindB y = true
theorem succ_step (st : Stp) (r : Ru) (x y : Str) : y ∈ succ (stepOf st r) x ↔ y ∈ succ st x ∨ (r.head = x ∧ r.parts = [y] ∧ kindB y = true) := by
  unfold stepOf
  split
  · rename_i p hp
    split
    · rename_i hk
      rw [succ_add, hp]
      constructor
      · rintro (z | ⟨rfl, rfl⟩)
        · exact .inl z
        · exact .inr ⟨rfl, rfl, hk⟩
      · rintro (z | ⟨rfl, z, _⟩)
        · exact .inl z
        · injection z with z
          exact .inr ⟨rfl, z.symm⟩
    · rename_i hk
      refine ⟨.inl, ?_⟩
      rintro (z | ⟨_, z, w⟩)
      · exact z
      · rw [hp] at z
        injection z with z
        rw [z] at hk
        exact absurd w hk
  · rename_i hp
    refine ⟨.inl, ?_⟩
    rintro (z | ⟨_, z, w⟩)
    · exact z
    · exact absurd z (hp y)
theorem succ_steps (rs : List Ru) (x y : Str) : y ∈ succ (stepsOf rs) x ↔ Stepped rs x y := by
  have go : ∀ (rs : List Ru) (st : Stp), y ∈ succ (rs.foldl stepOf st) x ↔ y ∈ succ st x ∨ Stepped rs x y := by
    intro rs
    induction rs with
    | nil => exact fun st => ⟨.inl, fun h => by
        rcases h with z | ⟨r, hr, _⟩
        · exact z
        · nomatch hr⟩
    | cons r rs ih =>
      intro st
      rw [List.foldl_cons, ih, succ_step]
      unfold Stepped
      simp only [List.mem_cons, exists_eq_or_imp, or_assoc]
  rw [show stepsOf rs = rs.foldl stepOf [] from rfl, go]
  simp [succ]
def Fit (ws : List Str) (rs : List Ru) (ps : Prs) : Prop := ∀ x y, Stepped rs x y ↔ ∃ a b, (a, b) ∈ ps ∧ ws[a]? = some x ∧ ws[b]? = some y
def tS (k : Nat) : Str := ("s" : Str) ++ Str.ofString (toString (k : Int))
def tR (k : Nat) : Str := ("r" : Str) ++ Str.ofString (toString (k : Int))
theorem tS_ok : ∀ k < 8, wordB (tS k) = true := by decide
structure St10 (ws : List Str) (i : Nat) (rs : List Ru) (ps : Prs) : Prop where
  ti : (titlesOf rs).Perm ((List.range 8).map tS ++ (List.range i).map tR)
  hd : ∀ w ∈ ws, w ∈ headsOf rs
  pk : ∀ r ∈ rs, ∀ p ∈ r.parts, kindB p = true → p ∈ ws
  un : ∀ r ∈ rs, ∀ us, r.under = some us → ∀ u ∈ us, u ∈ (List.range 8).map tS
  ok : ∀ r ∈ rs, RuOk r ∧ r.parts.length ≤ 4
  ft : Fit ws rs ps
  p8 : ∀ p ∈ ps, p.1 < 8 ∧ p.2 < 8
  pl : ps.length ≤ i
  rl : rs.length = 8 + i
theorem okS_word {w : Str} (h : wordB w = true) : okS w := okS_name (by unfold wordB at h; rw [Bool.and_eq_true] at h; exact h.1)
def ruS (ws : List Str) (k : Nat) : Ru := ⟨tS k, ws.getD k "", ["x"], ((k : Int) : Rat), "", none⟩
theorem okS_x : okS "x" := okS_name (by decide)
theorem okS_nil : okS "" := okS_of (by decide) (by decide)
theorem ruS_ok {ws : List Str} {k : Nat} (hk8 : k < 8) (h : kindB (ws.getD k "") = true ∧ okS (ws.getD k "")) : RuOk (ruS ws k) ∧ ruGood (ruS ws k) = true := by
  refine ⟨⟨okS_word (tS_ok k hk8), h.2, fun y hy => ?_, by show 1 ≤ 1000; omega, okS_nil, fun us z => (nomatch z)⟩, ?_⟩
  · have : y = "x" := by simpa [ruS] using hy
    rw [this]; exact okS_x
  · unfold ruGood
    show (wordB (tS k) && (kindB (ws.getD k "") && (partsB ["x"] && (tagB "" && underB none)))) = true
    rw [tS_ok k hk8, h.1]; decide
theorem St10.start {ws : List Str} (hw : ws.length = 8) (hk : ∀ w ∈ ws, kindB w = true ∧ okS w) : St10 ws 0 ((List.range 8).map (ruS ws)) [] := by
  have hx : kindB "x" = false := by decide
  have get : ∀ r ∈ (List.range 8).map (ruS ws), ∃ k, k < 8 ∧ r = ruS ws k := fun r hr => by
    obtain ⟨k, hk, rfl⟩ := List.mem_map.mp hr
    exact ⟨k, List.mem_range.mp hk, rfl⟩
  have at' : ∀ k, k < 8 → ws.getD k "" ∈ ws := fun k hk => by
    rw [List.getD_eq_getElem?_getD, List.getElem?_eq_getElem (by omega)]; exact List.getElem_mem _
  refine ⟨?_, fun w hw' => ?_, fun r hr p hp hkp => ?_, fun r hr us z => ?_, fun r hr => ?_, fun x y => ?_, fun p hp => (nomatch hp), by simp, by simp⟩
  · have : titlesOf ((List.range 8).map (ruS ws)) = (List.range 8).map tS := by unfold titlesOf; rw [List.map_map]; rfl
    rw [this]; simp
  · obtain ⟨k, hk8, e⟩ := List.getElem_of_mem hw'
    unfold headsOf
    rw [List.map_map]
    refine List.mem_map.mpr ⟨k, List.mem_range.mpr (by omega), ?_⟩
    show ws.getD k "" = w
    rw [List.getD_eq_getElem?_getD, List.getElem?_eq_getElem (by omega)]; exact e
  · obtain ⟨k, hk8, rfl⟩ := get r hr
    have : p = "x" := by simpa [ruS] using hp
    rw [this, hx] at hkp; cases hkp
  · obtain ⟨k, hk8, rfl⟩ := get r hr
    nomatch z
  · obtain ⟨k, hk8, rfl⟩ := get r hr
    exact ⟨(ruS_ok hk8 (hk _ (at' k hk8))).1, by show 1 ≤ 4; omega⟩
  · constructor
    · rintro ⟨r, hr, _, h2, h3⟩
      obtain ⟨k, hk8, rfl⟩ := get r hr
      have h2 : [("x" : Str)] = [y] := h2
      injection h2 with h2
      rw [← h2, hx] at h3; cases h3
    · rintro ⟨a, b, hp, _⟩
      nomatch hp
end
section
def t_l_is_name : DTS :=
 (dSeq (dAsg 1 (dC (.str "abcdefghijklmnopqrstuvwxyz0123456789ABCDEFGHIJKLMNOPQRSTUVWXYZ")))
 (dSeq (dFor (dItA (dVar 0)) (dgName 2) (dIf (dTst (dOp oNotIn (dVarR 2) (dVarR 1))) (dRet (dC (.bl false))) dNext))
 (dRet (dChain oLe oLe (dC (.int 1)) (dCB oLen (dCons (dVarR 0) dNil)) (dC (.int 12))))))
def t_l_is_kind (p_l_is_name : SpM) : DTS :=
 (dRet (dAndV (dCall p_l_is_name (dCons (dVar 0) dNil)) (dOp oIn (dOp oIx (dVarR 0) (dC (.int 0))) (dC (.str "ABCDEFGHIJKLMNOPQRSTUVWXYZ")))))
def t_l_is_word (p_l_is_name : SpM) : DTS :=
 (dRet (dAndV (dCall p_l_is_name (dCons (dVar 0) dNil)) (dOp oNotIn (dOp oIx (dVarR 0) (dC (.int 0))) (dC (.str "ABCDEFGHIJKLMNOPQRSTUVWXYZ")))))
def sp_l_is_name : SpD := sp_is_name
def sp_l_is_kind : SpD := sp_is_kind
def sp_l_is_word : SpD := sp_is_word
theorem r_l_is_name (ds M Q E) (h : pur sp_l_is_name ds M Q E) : t_l_is_name (endsOf Q E) (startE [false] 3 ds) M := by
  obtain ⟨x, rfl, hs, h'⟩ := sp1s h
  clear h
  have hz := hs.ok
  rw [sizeLine_eq] at hz
  simp! [t_l_is_name, hz]
  refine ⟨fun i ρ M' => ((cs x).take i).all alnum = true ∧ (∃ r s, ρ = [.dat (.str x), r, s] ∧ r = .dat (.str (Str.ofString "abcdefghijklmnopqrstuvwxyz0123456789ABCDEFGHIJKLMNOPQRSTUVWXYZ"))) ∧ M' = M, ⟨by simp, ⟨_, _, rfl, rfl⟩, rfl⟩, ?_, ?_⟩
  · rintro i d hd ρ M' ⟨ha, ⟨r, s, rfl, rfl⟩, rfl⟩
    obtain ⟨c, hc, rfl⟩ := sign_at hd
    simp! [oNotIn_c, mem_alnum]
    cases hal : alnum c with
    | true => exact ⟨take_all ha hc hal, _, _, rfl, rfl⟩
    | false =>
      have := all_false hc hal
      unfold nameB at h'
      rw [this, Bool.and_false] at h'
      exact h'
  · rintro ρ M' ⟨ha, ⟨r, s, rfl, rfl⟩, rfl⟩
    rw [signs_len, List.take_length] at ha
    simp! [hz]
    rw [len_cs]
    unfold nameB at h'
    rw [ha, Bool.and_true] at h'
    by_cases l1 : (1 : Int) ≤ ((cs x).length : Int)
    · simp only [l1, if_true]
      have e : decide (((cs x).length : Int) ≤ 12) = decide (1 ≤ (cs x).length ∧ (cs x).length ≤ 12) := by
        rw [Bool.eq_iff_iff, decide_eq_true_eq, decide_eq_true_eq]; omega
      rw [e]; exact h'
    · simp only [l1, if_false]
      have e : decide (1 ≤ (cs x).length ∧ (cs x).length ≤ 12) = false := decide_eq_false (by omega)
      rw [e] at h'; exact h'
theorem r_l_is_kind (ds M Q E) (h : pur sp_l_is_kind ds M Q E) : t_l_is_kind (pur sp_l_is_name) (endsOf Q E) (startE [false] 1 ds) M := r_is_kind ds M Q E h
theorem r_l_is_word (ds M Q E) (h : pur sp_l_is_word ds M Q E) : t_l_is_word (pur sp_l_is_name) (endsOf Q E) (startE [false] 1 ds) M := r_is_word ds M Q E h
theorem Lead.trans {st : Stp} {a b c : Str} (h1 : Lead st a b) (h2 : Lead st b c) : Lead st a c := by
  induction h2 with
  | one h => exact .more h1 h
  | more _ h ih => exact .more ih h
theorem Lead.first {st : Stp} {a c : Str} (h : Lead st a c) : ∃ b, b ∈ succ st a ∧ (b = c ∨ Lead st b c) := by
  induction h with
  | one h => exact ⟨_, h, .inl rfl⟩
  | more _ h ih =>
    obtain ⟨b, h1, h2⟩ := ih
    refine ⟨b, h1, .inr ?_⟩
    rcases h2 with rfl | h2
    · exact .one h
    · exact .more h2 h
end
section
theorem lo_alnum : ∀ c < 128, alnum c = true → alnum (PyProof.Rows.lo1 c) = true := by decide +kernel
theorem lo_gr : ∀ c < 128, isGr c = true → isGr (PyProof.Rows.lo1 c) = false := by decide +kernel
theorem lower_word {k : Str} (h : kindB k = true) : wordB (Txt.lower k) = true := by
  have hn := kind_name h
  obtain ⟨h1, h2⟩ := name_cs hn
  have hlt : ∀ c ∈ cs k, c < 128 := fun c hc => by have := alnum_lt (h2 c hc); omega
  have e : cs (Txt.lower k) = (cs k).map PyProof.Rows.lo1 := by
    rw [PyProof.Rows.lower_ascii (x := k) hlt]
    show (k.cps.map PyProof.Rows.lo1).toList = _
    rw [Array.toList_map] <;> rfl
  have n2 : nameB (Txt.lower k) = true := by
    unfold nameB
    rw [e, List.length_map, decide_eq_true h1, Bool.true_and, List.all_eq_true]
    intro c hc
    obtain ⟨d, hd, rfl⟩ := List.mem_map.mp hc
    exact lo_alnum d (hlt d hd) (h2 d hd)
  unfold wordB
  rw [n2, Bool.true_and, e]
  unfold kindB at h
  rw [hn, Bool.true_and] at h
  cases z : cs k with
  | nil => rw [z] at h; cases h
  | cons c r =>
    rw [z] at h
    show (!isGr (PyProof.Rows.lo1 c)) = true
    rw [lo_gr c (hlt c (by rw [z]; simp)) h]; rfl
structure Fine (k0 : Str) (rs : List Ru) : Prop where
  rl : rs.length ≤ 11
  ru : ∀ r ∈ rs, RuOk r ∧ ruGood r = true ∧ r.parts.length ≤ 4
  ti : (titlesOf rs).Nodup
  un : ∀ r ∈ rs, ∀ us, r.under = some us → ∀ u ∈ us, u ∈ titlesOf rs
  pk : ∀ r ∈ rs, ∀ p ∈ r.parts, kindB p = true → p ∈ headsOf rs
  h0 : k0 ∈ headsOf rs
  nr : ¬ Ring rs
def oneRow (k0 : Str) : Ru := ⟨Txt.lower k0, k0, ["x"], 1, "", none⟩
theorem Fine.one {k0 : Str} (hk : kindB k0 = true ∧ okS k0) : Fine k0 [oneRow k0] := by
  have hx : kindB "x" = false := by decide
  have hw := lower_word hk.1
  have par : ∀ r ∈ [oneRow k0], r = oneRow k0 := fun r hr => List.mem_singleton.mp hr
  refine ⟨by simp, fun r hr => ?_, by simp [titlesOf], fun r hr us z => ?_, fun r hr p hp hkp => ?_, by simp [headsOf, oneRow], ?_⟩
  · rw [par r hr]
    refine ⟨⟨okS_word hw, hk.2, fun p hp => ?_, by show 1 ≤ 1000; omega, okS_nil, fun us z => (nomatch z)⟩, ?_, by show 1 ≤ 4; omega⟩
    · have : p = "x" := by simpa [oneRow] using hp
      rw [this]; exact okS_x
    · show (wordB (Txt.lower k0) && (kindB k0 && (partsB ["x"] && (tagB "" && underB none)))) = true
      rw [hw, hk.1]; decide
  · rw [par r hr] at z; nomatch z
  · rw [par r hr] at hp
    have : p = "x" := by simpa [oneRow] using hp
    rw [this, hx] at hkp; cases hkp
  · rintro ⟨k, hl⟩
    have : ∀ {x y : Str}, Lead (stepsOf [oneRow k0]) x y → False := fun {x y} hl => by
      induction hl with
      | one hb =>
        obtain ⟨r, hr, e1, e2, e3⟩ := (succ_steps _ _ _).mp hb
        rw [par r hr] at e2
        have e2 : [("x" : Str)] = [_] := e2
        injection e2 with e2
        rw [← e2, hx] at e3; cases e3
      | more _ _ ih => exact ih
    exact this hl
end
section
theorem eq_strT {xs : List Str} {Q : D → Prop} (h : ∀ x ∈ xs, okS x) : oEq (.tup (xs.map .str)) (.tup (xs.map .str)) Q = Q (.bl true) := by
  have h1 : pl 1 (.tup (xs.map .str)) = true := by
    show (xs.map D.str).all (pl 0) = true
    rw [List.all_eq_true]
    intro d hd
    obtain ⟨x, hx, rfl⟩ := List.mem_map.mp hd
    exact (h x hx).1
  have e1 : PyData.eqv (D.tup (xs.map .str)).py (D.tup (xs.map .str)).py = true := (eqv_iff 1 _ _ h1 h1).mpr rfl
  have s1 := pl_sh h1 (by decide)
  exact propext ⟨fun ⟨_, _, q⟩ => by rw [e1] at q; exact q, fun q => ⟨s1, s1, by rw [e1]; exact q⟩⟩
theorem ne_strT {xs : List Str} {Q : D → Prop} (h : ∀ x ∈ xs, okS x) : oNe (.tup (xs.map .str)) (.tup (xs.map .str)) Q = Q (.bl false) :=
  eq_strT (Q := fun d => match d with | .bl b => Q (.bl (!b)) | d => Q d) h
end
section
def t_l_spoilt_k08 : DTS :=
 (dSeq (dAsg 2 (dLstOf (dLst (dCons (dC (.str "")) (dCons (dOp oAdd (dVarR 0) (dC (.str "abcdefghijkl"))) (dCons (dOp oAdd (dC (.str "-")) (dSlS (dVarR 0) (dOSome (dC (.int 1))) dONone)) (dCons (dOp oAdd (dSlS (dVarR 0) dONone (dOSome (dC (.int 5)))) (dC (.str "."))) (dCons (dOp oAdd (dVarR 0) (dC (.str " "))) (dCons (dC (.str "?")) dNil)))))))))
 (dSeq (dIf (dAndT (dTst (dOp oNe (dVarR 0) (dC (.str "")))) (dTst (dOp oEq (dOp oMod (dOp oFdiv (dVarR 1) (dC (.int 6))) (dC (.int 3))) (dC (.int 0))))) (dRet (dOp oAdd (dSM0 soUpper (dOp oIx (dVarR 0) (dC (.int 0)))) (dSlS (dVarR 0) (dOSome (dC (.int 1))) dONone))) dNext)
 (dRet (dOp oIx (dVarR 2) (dOp oMod (dVarR 1) (dC (.int 6)))))))
def t_l_row (p_l_mix : SpM) : DTS :=
 (dSeq (dAsg 2 (dCall p_l_mix (dCons (dVar 0) (dCons (dC (.int 1)) dNil))))
 (dSeq (dAsg 3 (dCall p_l_mix (dCons (dVar 0) (dCons (dC (.int 2)) dNil))))
 (dSeq (dAsg 4 (dOp oAdd (dOp oIx (dVarR 1) (dC (.int 1))) (dOp oIx (dVarR 1) (dC (.int 2)))))
 (dSeq (dAsg 5 (dLstM (dLc (dRng1 (dCons (dOp oAdd (dC (.int 1)) (dOp oMod (dVarR 2) (dC (.int 4)))) dNil)) (dgName 8) dYes (dOp oIx (dVarR 4) (dOp oMod (dCall p_l_mix (dCons (dVar 0) (dCons (dOp oAdd (dC (.int 3)) (dVarR 8)) dNil))) (dCB oLen (dCons (dVarR 4) dNil)))) [8])))
 (dSeq (dAsg 6 (dOp oIx (dLstOf (dLst (dCons (dC (.str "")) (dCons (dOp oIx (dOp oIx (dVarR 1) (dC (.int 1))) (dOp oMod (dOp oFdiv (dVarR 2) (dC (.int 4))) (dC (.int 4)))) dNil)))) (dOp oMod (dOp oFdiv (dVarR 2) (dC (.int 16))) (dC (.int 2)))))
 (dSeq (dAsg 7 (dC .non))
 (dSeq (dIf (dTst (dOp oEq (dOp oMod (dVarR 3) (dC (.int 2))) (dC (.int 1)))) (dAsg 7 (dLstM (dLc (dRng1 (dCons (dOp oAdd (dC (.int 1)) (dOp oMod (dOp oFdiv (dVarR 3) (dC (.int 2))) (dC (.int 3)))) dNil)) (dgName 8) dYes (dOp oIx (dOp oIx (dVarR 1) (dC (.int 0))) (dOp oMod (dOp oFdiv (dVarR 3) (dOp oAdd (dC (.int 2)) (dOp oMulA (dC (.int 5)) (dVarR 8)))) (dC (.int 6)))) [8]))) dNext)
 (dRet (dLstM (dLst (dCons (dOp oIx (dOp oIx (dVarR 1) (dC (.int 0))) (dOp oMod (dOp oFdiv (dVarR 2) (dC (.int 32))) (dC (.int 6)))) (dCons (dOp oIx (dOp oIx (dVarR 1) (dC (.int 2))) (dOp oMod (dOp oFdiv (dVarR 2) (dC (.int 192))) (dC (.int 3)))) (dCons (dVar 5) (dCons (dTup (dCons (dOp oSub (dOp oMod (dVarR 3) (dC (.int 7))) (dC (.int 3))) (dCons (dC (.int 1)) dNil))) (dCons (dVar 6) (dCons (dVar 7) dNil))))))))))))))))
def t_l_faulty (p_l_spoilt_k08 : SpM) : DTS :=
 (dSeq (dAsg 2 (dOp oMod (dVarR 1) (dC (.int 7))))
 (dSeq (dAsg 3 (dOp oFdiv (dVarR 1) (dC (.int 7))))
 (dCut (dIf (dTst (dOp oEq (dVarR 2) (dC (.int 0)))) (dStore 0 (dC (.int 0)) (dCall p_l_spoilt_k08 (dCons (dOp oIx (dVarR 0) (dC (.int 0))) (dCons (dVar 3) dNil)))) dNext)
 (dCut (dIf (dTst (dOp oEq (dVarR 2) (dC (.int 1)))) (dStore 0 (dC (.int 1)) (dOp oIx (dTup (dCons (dCall p_l_spoilt_k08 (dCons (dOp oIx (dVarR 0) (dC (.int 1))) (dCons (dVar 3) dNil))) (dCons (dSM0 soLower (dOp oIx (dVarR 0) (dC (.int 1)))) dNil))) (dOp oMod (dOp oFdiv (dVarR 3) (dC (.int 18))) (dC (.int 2))))) dNext)
 (dCut (dIf (dAndT (dTst (dOp oEq (dVarR 2) (dC (.int 2)))) (dTst (dOp oNe (dOp oIx (dVarR 0) (dC (.int 2))) (dLstOf (dLst dNil))))) (dSeq (dAsg 4 (dOp oMod (dVarR 3) (dCB oLen (dCons (dOp oIx (dVarR 0) (dC (.int 2))) dNil))))
 (dStoreX (dOp oIx (dVarR 0) (dC (.int 2))) (dVarR 4) (dOp oIx (dTup (dCons (dC (.str "")) (dCons (dOp oAdd (dOp oIx (dOp oIx (dVarR 0) (dC (.int 2))) (dVarR 4)) (dC (.str "abcdefghijkl"))) (dCons (dOp oAdd (dC (.str ",")) (dSlS (dOp oIx (dOp oIx (dVarR 0) (dC (.int 2))) (dVarR 4)) (dOSome (dC (.int 1))) dONone)) (dCons (dC (.str "?")) dNil))))) (dOp oMod (dOp oFdiv (dVarR 3) (dC (.int 4))) (dC (.int 4)))))) dNext)
 (dCut (dIf (dAndT (dTst (dOp oEq (dVarR 2) (dC (.int 3)))) (dTst (dOp oNe (dOp oIx (dVarR 0) (dC (.int 2))) (dLstOf (dLst dNil))))) (dStore 0 (dC (.int 2)) (dLstM (dRepN (dLst (dCons (dOp oIx (dOp oIx (dVarR 0) (dC (.int 2))) (dC (.int 0))) dNil)) (dOp oIx (dTup (dCons (dC (.int 0)) (dCons (dC (.int 5)) dNil))) (dOp oMod (dVarR 3) (dC (.int 2))))))) dNext)
 (dCut (dIf (dTst (dOp oEq (dVarR 2) (dC (.int 4)))) (dStore 0 (dC (.int 4)) (dOp oIx (dTup (dCons (dC (.str "abcdefghijklm")) (dCons (dC (.str "Tag")) (dCons (dC (.str "t-g")) (dCons (dC (.str " ")) dNil))))) (dOp oMod (dVarR 3) (dC (.int 4))))) dNext)
 (dCut (dIf (dTst (dOp oEq (dVarR 2) (dC (.int 5)))) (dStore 0 (dC (.int 5)) (dLstM (dLst dNil))) dNext)
 (dIf (dAndT (dTst (dOp oEq (dVarR 2) (dC (.int 6)))) (dAndT (dTst (dOp oNotN (dOp oIx (dVarR 0) (dC (.int 5))) (dC .non))) (dTst (dOp oNe (dOp oIx (dVarR 0) (dC (.int 5))) (dLstOf (dLst dNil)))))) (dStoreX (dOp oIx (dVarR 0) (dC (.int 5))) (dOp oMod (dVarR 3) (dCB oLen (dCons (dOp oIx (dVarR 0) (dC (.int 5))) dNil))) (dOp oIx (dTup (dCons (dC (.str "")) (dCons (dC (.str "abcdefghijklm")) (dCons (dC (.str "Title")) (dCons (dC (.str "t ")) dNil))))) (dOp oMod (dOp oFdiv (dVarR 3) (dC (.int 3))) (dC (.int 4))))) dNext)))))))))
def t_l_good (p_l_is_word : SpM) (p_l_is_kind : SpM) (p_l_is_name : SpM) : DTS :=
 (dSeq (dIf (dOrT (dNotT (dTru (dCall p_l_is_word (dCons (dOp oIx (dVarR 0) (dC (.int 0))) dNil)))) (dOrT (dNotT (dTru (dCall p_l_is_kind (dCons (dOp oIx (dVarR 0) (dC (.int 1))) dNil)))) (dNotT (dTst (dChain oLe oLe (dC (.int 1)) (dCB oLen (dCons (dOp oIx (dVarR 0) (dC (.int 2))) dNil)) (dC (.int 4))))))) (dRet (dC (.bl false))) dNext)
 (dSeq (dIf (dOrT (dNotT (dTru (dCB oAll (dCons (dLstOf (dLcS (dOp oIx (dVarR 0) (dC (.int 2))) (dgName 1) dYes (dCall p_l_is_name (dCons (dVar 1) dNil)) [1])) dNil)))) (dAndT (dTst (dOp oNe (dOp oIx (dVarR 0) (dC (.int 4))) (dC (.str "")))) (dNotT (dTru (dCall p_l_is_word (dCons (dOp oIx (dVarR 0) (dC (.int 4))) dNil)))))) (dRet (dC (.bl false))) dNext)
 (dRet (dOrV (dOp oIsN (dOp oIx (dVarR 0) (dC (.int 5))) (dC .non)) (dAndV (dOp oGt (dCB oLen (dCons (dOp oIx (dVarR 0) (dC (.int 5))) dNil)) (dC (.int 0))) (dCB oAll (dCons (dLstOf (dLcS (dOp oIx (dVarR 0) (dC (.int 5))) (dgName 2) dYes (dCall p_l_is_word (dCons (dVar 2) dNil)) [2])) dNil)))))))
def t_l_is : DTS :=
 (dSeq (dIf (dOrT (dTst (dOp oNe (dFld "title" ["Rule"] (dVarR 0)) (dOp oIx (dVarR 1) (dC (.int 0))))) (dOrT (dTst (dOp oNe (dFld "head" ["Rule"] (dVarR 0)) (dOp oIx (dVarR 1) (dC (.int 1))))) (dOrT (dTst (dOp oNe (dFld "weight" ["Rule"] (dVarR 0)) (dOp oIx (dVarR 1) (dC (.int 3))))) (dTst (dOp oNe (dFld "tag" ["Rule"] (dVarR 0)) (dOp oIx (dVarR 1) (dC (.int 4)))))))) (dRet (dC (.bl false))) dNext)
 (dSeq (dIf (dOrT (dNotT (dTru (dCB (oIsi "tuple") (dCons (dFld "parts" ["Rule"] (dVarR 0)) (dCons (dC (.ty "tuple")) dNil))))) (dTst (dOp oNe (dFld "parts" ["Rule"] (dVarR 0)) (dCB oTuple1 (dCons (dOp oIx (dVarR 1) (dC (.int 2))) dNil))))) (dRet (dC (.bl false))) dNext)
 (dSeq (dIf (dTst (dOp oIsN (dOp oIx (dVarR 1) (dC (.int 5))) (dC .non))) (dRet (dOp oIsN (dFld "under" ["Rule"] (dVarR 0)) (dC .non))) dNext)
 (dRet (dAndV (dCB (oIsi "tuple") (dCons (dFld "under" ["Rule"] (dVarR 0)) (dCons (dC (.ty "tuple")) dNil))) (dOp oEq (dFld "under" ["Rule"] (dVarR 0)) (dCB oTuple1 (dCons (dOp oIx (dVarR 1) (dC (.int 5))) dNil))))))))
def t_l_made (p_Rule_init : SpM) : DTS :=
 (dSeq (dOwn 2 (dList1 (dCons (dOp oIx (dVarR 0) (dC (.int 2))) dNil)))
 (dSeq (dAsg 3 (dOp oIx (dVarR 0) (dC (.int 5))))
 (dSeq (dIf (dTst (dOp oNotN (dVarR 3) (dC .non))) (dOwn 3 (dList1 (dCons (dVarR 3) dNil))) dNext)
 (dSeq (dAsg 4 (dC .non))
 (dSeq (dAsg 5 (dC .non))
 (dSeq (dTry 6 ["WoodError", "NoLine", "NoScale", "NoRule", "NoWeight", "Twice", "NoTitle", "NoKind", "Ring", "NoNet", "TooMany", "NoTree"] [] (dIf (dAndT (dTst (dOp oEq (dOp oIx (dVarR 0) (dC (.int 4))) (dC (.str "")))) (dAndT (dTst (dOp oIsN (dVarR 3) (dC .non))) (dTst (dOp oEq (dOp oMod (dVarR 1) (dC (.int 2))) (dC (.int 0)))))) (dAsg 4 (dMake "Rule" [.str "", .non] p_Rule_init (dCons (dOp oIx (dVarR 0) (dC (.int 0))) (dCons (dOp oIx (dVarR 0) (dC (.int 1))) (dCons (dVarR 2) (dCons (dOp oIx (dVarR 0) (dC (.int 3))) dNil)))))) (dIf (dAndT (dTst (dOp oIsN (dVarR 3) (dC .non))) (dTst (dOp oLt (dOp oMod (dVarR 1) (dC (.int 4))) (dC (.int 2))))) (dAsg 4 (dMake "Rule" [.non] p_Rule_init (dCons (dOp oIx (dVarR 0) (dC (.int 0))) (dCons (dOp oIx (dVarR 0) (dC (.int 1))) (dCons (dCB oTuple1 (dCons (dVarR 2) dNil)) (dCons (dOp oIx (dVarR 0) (dC (.int 3))) (dCons (dOp oIx (dVarR 0) (dC (.int 4))) dNil))))))) (dIf (dAndT (dTst (dOp oNotN (dVarR 3) (dC .non))) (dTst (dOp oEq (dOp oMod (dVarR 1) (dC (.int 4))) (dC (.int 2))))) (dAsg 4 (dMake "Rule" [] p_Rule_init (dCons (dOp oIx (dVarR 0) (dC (.int 0))) (dCons (dOp oIx (dVarR 0) (dC (.int 1))) (dCons (dVarR 2) (dCons (dOp oIx (dVarR 0) (dC (.int 3))) (dCons (dOp oIx (dVarR 0) (dC (.int 4))) (dCons (dCB oTuple1 (dCons (dVarR 3) dNil)) dNil)))))))) (dAsg 4 (dMake "Rule" [] p_Rule_init (dCons (dOp oIx (dVarR 0) (dC (.int 0))) (dCons (dOp oIx (dVarR 0) (dC (.int 1))) (dCons (dVarR 2) (dCons (dOp oIx (dVarR 0) (dC (.int 3))) (dCons (dOp oIx (dVarR 0) (dC (.int 4))) (dCons (dVarR 3) dNil))))))))))) (dSeq (dOwn 5 (dLst (dCons (dCB (oIsC [.cls "NoRule"] [("NoneType", false)] [("WoodError", false), ("NoLine", false), ("NoScale", false), ("NoRule", true), ("NoWeight", false), ("Twice", false), ("NoTitle", false), ("NoKind", false), ("Ring", false), ("NoNet", false), ("TooMany", false), ("NoTree", false)] []) (dCons (dVarR 6) (dCons (dC (.cls "NoRule")) dNil))) (dCons (dCB (oIsC [.ty "ValueError"] [("NoneType", false)] [("WoodError", true), ("NoLine", true), ("NoScale", true), ("NoRule", true), ("NoWeight", true), ("Twice", true), ("NoTitle", true), ("NoKind", true), ("Ring", true), ("NoNet", true), ("TooMany", true), ("NoTree", true)] []) (dCons (dVarR 6) (dCons (dC (.ty "ValueError")) dNil))) (dCons (dCB (oIsC [.cls "NoKind", .cls "NoLine", .cls "NoNet", .cls "NoScale"] [("NoneType", false)] [("WoodError", false), ("NoLine", true), ("NoScale", true), ("NoRule", false), ("NoWeight", false), ("Twice", false), ("NoTitle", false), ("NoKind", true), ("Ring", false), ("NoNet", true), ("TooMany", false), ("NoTree", false)] []) (dCons (dVarR 6) (dCons (dTup (dCons (dC (.cls "NoKind")) (dCons (dC (.cls "NoLine")) (dCons (dC (.cls "NoNet")) (dCons (dC (.cls "NoScale")) dNil))))) dNil))) dNil)))))
 (fun DD ρ M => lmPre ρ M 5 ∧ dAugL 5 (dLstOf (dLst (dCons (dCB (oIsC [.cls "NoTitle", .cls "NoTree", .cls "NoWeight"] [("NoneType", false)] [("WoodError", false), ("NoLine", false), ("NoScale", false), ("NoRule", false), ("NoWeight", true), ("Twice", false), ("NoTitle", true), ("NoKind", false), ("Ring", false), ("NoNet", false), ("TooMany", false), ("NoTree", true)] []) (dCons (dVarR 6) (dCons (dTup (dCons (dC (.cls "NoTitle")) (dCons (dC (.cls "NoTree")) (dCons (dC (.cls "NoWeight")) dNil)))) dNil))) (dCons (dCB (oIsC [.cls "Ring", .cls "TooMany", .cls "Twice"] [("NoneType", false)] [("WoodError", false), ("NoLine", false), ("NoScale", false), ("NoRule", false), ("NoWeight", false), ("Twice", true), ("NoTitle", false), ("NoKind", false), ("Ring", true), ("NoNet", false), ("TooMany", true), ("NoTree", false)] []) (dCons (dVarR 6) (dCons (dTup (dCons (dC (.cls "Ring")) (dCons (dC (.cls "TooMany")) (dCons (dC (.cls "Twice")) dNil)))) dNil))) dNil)))) DD ρ M)))
 (dSeq (dLmut lmAppend 2 (dCons (dC (.str "Z")) dNil) kNx)
 (dSeq (dIf (dTst (dOp oNotN (dVarR 3) (dC .non))) (dLmut lmAppend 3 (dCons (dC (.str "z")) dNil) kNx) dNext)
 (dSeq (dIf (dTst (dOp oIsN (dVarR 4) (dC .non))) (dRet (dTup (dCons (dC .non) (dCons (dOp oEq (dVarR 5) (dLstOf (dLst (dCons (dC (.bl true)) (dCons (dC (.bl true)) (dCons (dC (.bl false)) (dCons (dC (.bl false)) (dCons (dC (.bl false)) dNil)))))))) dNil)))) dNext)
 (dRet (dTup (dCons (dVar 4) (dCons (dC (.bl false)) dNil)))))))))))))
def t_law_k08 (p_l_names : SpM) (p_l_at : SpM) (p_l_row : SpM) (p_l_mix : SpM) (p_l_faulty : SpM) (p_l_made : SpM) (p_l_good : SpM) (p_l_is : SpM) : DTS :=
 (dSeq (dOwn 1 (dLst (dCons (dCall p_l_names (dCons (dCall p_l_at (dCons (dVar 0) (dCons (dC (.int 0)) dNil))) (dCons (dC (.int 6)) (dCons (dC (.str "abcdefghijklmnopqrstuvwxyz0123456789")) dNil)))) dNil)))
 (dSeq (dLmut lmAppend 1 (dCons (dCall p_l_names (dCons (dCall p_l_at (dCons (dVar 0) (dCons (dC (.int 1)) dNil))) (dCons (dC (.int 4)) (dCons (dC (.str "abcdefghijklmnopqrstuvwxyz0123456789")) dNil)))) dNil) kNx)
 (dSeq (dLmut lmAppend 1 (dCons (dCall p_l_names (dCons (dCall p_l_at (dCons (dVar 0) (dCons (dC (.int 2)) dNil))) (dCons (dC (.int 3)) (dCons (dC (.str "ABCDEFGHIJKLMNOPQRSTUVWXYZ")) dNil)))) dNil) kNx)
 (dSeq (dOwn 2 (dLst dNil))
 (dSeq (dFor (dItA (dSlS (dVarR 0) (dOSome (dC (.int 3))) (dOSome (dC (.int 63))))) (dgName 3) (dSeq (dFrz 1 (dAsg 4 (dCall p_l_row (dCons (dVar 3) (dCons (dVar 1) dNil)))))
 (dSeq (dAsg 5 (dCall p_l_mix (dCons (dVar 3) (dCons (dC (.int 5)) dNil))))
 (dSeq (dFor (dRng1 (dCons (dOp oIx (dTup (dCons (dC (.int 0)) (dCons (dC (.int 1)) (dCons (dC (.int 0)) (dCons (dC (.int 1)) (dCons (dC (.int 0)) (dCons (dC (.int 2)) dNil))))))) (dOp oMod (dVarR 5) (dC (.int 6)))) dNil)) (dgName 6) (dDrop (dCall p_l_faulty (dCons (dVar 4) (dCons (dOp oFdiv (dVarR 5) (dOp oAdd (dC (.int 6)) (dOp oMulA (dC (.int 13)) (dVarR 6)))) dNil)))))
 (dSeq (dAsg 7 (dCall p_l_made (dCons (dVar 4) (dCons (dCall p_l_mix (dCons (dVar 3) (dCons (dC (.int 6)) dNil))) dNil))))
 (dIf (dTru (dCall p_l_good (dCons (dVar 4) dNil))) (dSeq (dIf (dTst (dOp oIsN (dOp oIx (dVarR 7) (dC (.int 0))) (dC .non))) (dRet (dC (.bl false))) dNext)
 (dLmut lmAppend 2 (dCons (dTup (dCons (dOp oIx (dVarR 7) (dC (.int 0))) (dCons (dVar 4) dNil))) dNil) kNx)) (dIf (dNotT (dTru (dOp oIx (dVarR 7) (dC (.int 1))))) (dRet (dC (.bl false))) dNext)))))))
 (dFrz 2 (dRet (dCB oAll (dCons (dLstOf (dLc (dItA (dVar 2)) (dgTup 2 (dgCons (dgName 8) (dgCons (dgName 4) dgNil))) dYes (dCall p_l_is (dCons (dVar 8) (dCons (dVar 4) dNil))) [8, 4])) dNil)))))))))
def asc (n : Nat) (w : Str) : Prop := (∀ c ∈ cs w, c < 128) ∧ (cs w).length ≤ n
theorem asc.ok {n : Nat} {w : Str} (h : asc n w) (hn : n ≤ 100 := by decide) : okS w := okS_of (fun c hc => by have := h.1 c hc; omega) (by have := h.2; omega)
theorem asc.mono {n m : Nat} {w : Str} (h : asc n w) (hm : n ≤ m) : asc m w := ⟨h.1, by have := h.2; omega⟩
theorem asc.app {n m : Nat} {v w : Str} (h : asc n v) (k : asc m w) : asc (n + m) (v ++ w) := ⟨fun c hc => by
  rw [cs_app, List.mem_append] at hc
  rcases hc with z | z
  · exact h.1 c z
  · exact k.1 c z, by rw [cs_app, List.length_append]; have := h.2; have := k.2; omega⟩
theorem asc.cut {n : Nat} {w : Str} (h : asc n w) {a b : Option Int} : asc n (cutS w a b) := ⟨fun c hc => h.1 c (cut_mem hc), Nat.le_trans cut_len h.2⟩
theorem asc.len {n : Nat} {w : Str} (h : asc n w) : w.length ≤ n := by rw [len_cs]; exact h.2
theorem asc.one {n : Nat} {w : Str} (h : asc n w) {c : Nat} (hc : c ∈ cs w) : asc 1 ⟨#[c]⟩ := ⟨fun d hd => by
  have : d = c := by simpa [cs] using hd
  rw [this]; exact h.1 c hc, by simp [cs]⟩
theorem up_lt : ∀ c < 128, PyProof.Rows.up1 c < 128 := by decide +kernel
theorem lo_lt : ∀ c < 128, PyProof.Rows.lo1 c < 128 := by decide +kernel
theorem asc.lower {n : Nat} {w : Str} (h : asc n w) : asc n (Txt.lower w) := by
  have e : cs (Txt.lower w) = (cs w).map PyProof.Rows.lo1 := by
    rw [PyProof.Rows.lower_ascii (x := w) h.1]
    show (w.cps.map PyProof.Rows.lo1).toList = _
    rw [Array.toList_map] <;> rfl
  exact ⟨fun c hc => by
    rw [e] at hc
    obtain ⟨d, hd, rfl⟩ := List.mem_map.mp hc
    exact lo_lt d (h.1 d hd), by rw [e, List.length_map]; exact h.2⟩
theorem asc.upper {n : Nat} {w : Str} (h : asc n w) : asc n (Txt.upper w) := by
  have e : cs (Txt.upper w) = (cs w).map PyProof.Rows.up1 := by
    rw [PyProof.Rows.upper_ascii (x := w) h.1]
    show (w.cps.map PyProof.Rows.up1).toList = _
    rw [Array.toList_map] <;> rfl
  exact ⟨fun c hc => by
    rw [e] at hc
    obtain ⟨d, hd, rfl⟩ := List.mem_map.mp hc
    exact up_lt d (h.1 d hd), by rw [e, List.length_map]; exact h.2⟩
theorem asc_name {w : Str} (h : nameB w = true) : asc 12 w := by
  obtain ⟨h1, h2⟩ := name_cs h
  exact ⟨fun c hc => by have := alnum_lt (h2 c hc); omega, h1.2⟩
def sp_l_spoilt_k08 : SpD := fun ds Q _ => match ds with
  | [.str w, .int m] => ∃ n, n ≤ 50 ∧ asc n w ∧ 0 ≤ m ∧ ∀ u, asc (n + 13) u → Q (.str u)
  | _ => False
theorem r_l_spoilt_k08 (ds M Q E) (h : pur sp_l_spoilt_k08 ds M Q E) : t_l_spoilt_k08 (endsOf Q E) (startE [false, false] 3 ds) M := by
  unfold pur sp_l_spoilt_k08 at h
  dsimp only at h
  split at h
  · rename_i w m
    obtain ⟨n, n50, hw, m0, h⟩ := h
    have sm : ∀ i : Int, 0 ≤ i → i < 100000 → Sm i := fun i h1 h2 => sm_lit (by omega) (by omega)
    have a12 : asc 12 (Str.ofString "abcdefghijkl") := by unfold asc; decide +kernel
    have a1 : asc 1 (Str.ofString "-") := by unfold asc; decide +kernel
    have a2 : asc 1 (Str.ofString ".") := by unfold asc; decide +kernel
    have a3 : asc 1 (Str.ofString " ") := by unfold asc; decide +kernel
    have a4 : asc 1 (Str.ofString "?") := by unfold asc; decide +kernel
    have a0 : asc 0 (Str.ofString "") := by unfold asc; decide +kernel
    have lw := hw.len
    have b12 := a12.len
    have b1 := a1.len
    have b2 := a2.len
    have b3 := a3.len
    have lc : ∀ a b, (cutS w a b).length ≤ n := fun a b => hw.cut.len
    simp! [t_l_spoilt_k08]
    have fin : oIx (D.lst [D.str (Str.ofString ""), D.str (w ++ Str.ofString "abcdefghijkl"), D.str (Str.ofString "-" ++ cutS w (some 1) none), D.str (cutS w none (some 5) ++ Str.ofString "."), D.str (w ++ Str.ofString " "), D.str (Str.ofString "?")]) (D.int (m % 6)) fun d => Q d M := by
      refine ix_all (P := fun d => ∃ u, d = .str u ∧ asc (n + 13) u) (by omega) (by simp; omega) ?_ fun d ⟨u, e, hu⟩ => by rw [e]; exact h u hu
      intro d hd
      simp only [List.mem_cons, List.not_mem_nil, or_false] at hd
      rcases hd with rfl | rfl | rfl | rfl | rfl | rfl
      · exact ⟨_, rfl, a0.mono (by omega)⟩
      · exact ⟨_, rfl, (hw.app a12).mono (by omega)⟩
      · exact ⟨_, rfl, (a1.app hw.cut).mono (by omega)⟩
      · exact ⟨_, rfl, (hw.cut.app a2).mono (by omega)⟩
      · exact ⟨_, rfl, (hw.app a3).mono (by omega)⟩
      · exact ⟨_, rfl, a4.mono (by omega)⟩
    have c1 := lc (some 1) none
    have c5 := lc none (some 5)
    refine ⟨by omega, by omega, by omega, by omega, by omega, by omega, ?_⟩
    split
    · exact fin
    · rename_i ne
      refine ⟨sm _ (by decide) (by decide), ?_⟩
      split
      · have lp : 0 < (cs w).length := Nat.pos_of_ne_zero fun z => ne (str_ext (by rw [List.length_eq_zero_iff.mp z]; decide +kernel))
        refine ix_str (by omega) (by omega) (by rw [sizeLine_eq]; omega) fun ch hc => ?_
        have o := hw.one (List.mem_of_getElem? hc)
        have l1 := o.len
        have l2 := o.upper.len
        simp! [dSeq]
        exact ⟨by omega, by omega, by omega, h _ ((o.upper.app hw.cut).mono (by omega))⟩
      · exact fin
  · exact h.elim
structure RowAt (M0 M : Mu) (r : Addr) (n : Nat) (x : Ru) : Prop where
  at' : ∃ (P : Addr) (un : D), M r = some (.lst [.str x.title, .str x.head, .ref P, fD x.weight, .str x.tag, un]) ∧ M P = some (.lst (x.parts.map .str)) ∧ P ≠ r ∧ M0 P = none ∧ ((x.under = none ∧ un = .non) ∨ ∃ us U, x.under = some us ∧ un = .ref U ∧ M U = some (.lst (us.map .str)) ∧ U ≠ r ∧ U ≠ P ∧ M0 U = none)
  fr : M0 r = none
  le : leM M0 M
  t : asc n x.title
  h : asc n x.head
  p : ∀ w ∈ x.parts, asc n w
  pl : x.parts.length ≤ 5
  g : asc n x.tag
  u : ∀ us, x.under = some us → us.length ≤ 3 ∧ ∀ w ∈ us, asc n w
theorem RowAt.ok {M0 M : Mu} {r : Addr} {n : Nat} {x : Ru} (h : RowAt M0 M r n x) (hn : n ≤ 100) : RuOk x := ⟨h.t.ok hn, h.h.ok hn, fun w hw => (h.p w hw).ok hn, by have := h.pl; omega, h.g.ok hn, fun us hu => ⟨by have := (h.u us hu).1; omega, fun w hw => ((h.u us hu).2 w hw).ok hn⟩⟩
theorem RowAt.mono {M0 M M' : Mu} {r : Addr} {n : Nat} {x : Ru} (h : RowAt M0 M r n x) (le : leM M M') : RowAt M0 M' r n x := by
  obtain ⟨P, un, a1, a2, a3, a4, a5⟩ := h.at'
  refine { h with at' := ⟨P, un, le _ _ a1, le _ _ a2, a3, a4, ?_⟩, le := h.le.trans le }
  rcases a5 with a5 | ⟨us, U, b1, b2, b3, b4⟩
  · exact .inl a5
  · exact .inr ⟨us, U, b1, b2, le _ _ b3, b4⟩
def sp_l_row : SpM := fun ds M Q _ => match ds with
  | [.int c, .lst nms] => ∃ ts ws ks : List Str, nms = [.lst (ts.map .str), .lst (ws.map .str), .lst (ks.map .str)] ∧ ts.length = 6 ∧ ws.length = 4 ∧ ks.length = 3 ∧ (∀ w ∈ ts, asc 12 w) ∧ (∀ w ∈ ws, asc 12 w) ∧ (∀ w ∈ ks, asc 12 w) ∧ ∀ r M' x, RowAt M M' r 12 x → Q (.ref r) M'
  | _ => False
theorem r_l_row (ds M Q E) (h : sp_l_row ds M Q E) : t_l_row (pur sp_l_mix) (endsW Q E) (startE [false, false] 9 ds) M := by
  unfold sp_l_row at h
  split at h
  · rename_i c nms
    obtain ⟨ts, ws, ks, rfl, l6, l4, l3, at', aw, ak, h⟩ := h
    have kk : ∀ j : Int, 0 ≤ j → j ≤ 60 → kOk j := fun j h1 h2 => ⟨by omega, by omega⟩
    have mlo := mix_lo c
    have n0 := mlo 1
    have n1 := mlo 2
    simp! [t_l_row, sp_l_mix, kk]
    have sm : ∀ i : Int, 0 ≤ i → i < 100000 → Sm i := fun i h1 h2 => sm_lit (by omega) (by omega)
    have all : ∀ {acc : List D} {k : Nat}, acc.length = k → (∀ (i : Nat) d, acc[i]? = some d → ∃ w : Str, d = .str w ∧ asc 12 w) → ∃ ps : List Str, acc = ps.map .str ∧ ps.length = k ∧ ∀ w ∈ ps, asc 12 w := fun {acc k} hl hc => by
      obtain ⟨ps, rfl, h2⟩ := exists_map (f := D.str) (P := asc 12) (xs := acc) fun d hd => by
        obtain ⟨i, hi⟩ := List.mem_iff_getElem?.mp hd
        exact hc i d hi
      exact ⟨ps, rfl, by rw [← hl, List.length_map], h2⟩
    refine ⟨by rw [List.length_map, List.length_map]; omega, by omega, by omega, ?_⟩
    refine lc_all (xs := rngD 0 (1 + mix c 1 % 4).toNat) (fun _ d => ∃ w : Str, d = .str w ∧ asc 12 w) (by rw [rng_len]; omega) (fun i x hx K N hK => ?_) fun acc hal hac => ?_
    · obtain ⟨hi, rfl⟩ := rng_at hx
      have n3 := mlo (3 + (0 + (i : Int)))
      have kk3 := kk (3 + (0 + (i : Int))) (by omega) (by omega)
      have e1 : ws.map D.str ++ ks.map D.str = (ws ++ ks).map D.str := by rw [List.map_append]
      have ll : (ws ++ ks).length = 7 := by rw [List.length_append, l4, l3]
      simp! [sp_l_mix, kk3]
      have ln : (((ws.map D.str ++ ks.map D.str).length : Nat) : Int) = 7 := by rw [e1, List.length_map, ll]; rfl
      rw [ln]
      refine ⟨by omega, ?_⟩
      rw [e1, Int.fmod_eq_emod_of_nonneg _ (by decide)]
      obtain ⟨w, hw, ew⟩ := ix_get (f := D.str) (xs := ws ++ ks) (i := mix c (3 + (0 + (i : Int))) % 7) (by omega) (by rw [ll]; omega)
      rw [ew]
      exact hK _ ⟨w, rfl, (List.mem_append.mp hw).elim (aw w) (ak w)⟩
    obtain ⟨ps, rfl, pl, pa⟩ := all hal hac
    rw [rng_len] at pl
    intro P hP
    refine ⟨sm _ (by decide) (by decide), ?_⟩
    obtain ⟨w1, hw1, ew1⟩ := ix_get (f := D.str) (xs := ws) (i := mix c 1 / 4 % 4) (by omega) (by rw [l4]; omega)
    rw [ew1]
    refine ⟨sm _ (by decide) (by decide), ?_⟩
    obtain ⟨g, hg, eg⟩ := ix_get (f := D.str) (xs := [Str.ofString "", w1]) (i := mix c 1 / 16 % 2) (by omega) (by show _ < (2 : Int); omega)
    have ag : asc 12 g := by
      simp only [List.mem_cons, List.not_mem_nil, or_false] at hg
      rcases hg with rfl | rfl
      · unfold asc; decide +kernel
      · exact aw _ hw1
    rw [show (D.lst [D.str (Str.ofString ""), D.str w1]) = .lst ([Str.ofString "", w1].map .str) from rfl, eg]
    obtain ⟨ti, hti, eti⟩ := ix_get (f := D.str) (xs := ts) (i := mix c 1 / 32 % 6) (by omega) (by rw [l6]; omega)
    obtain ⟨he, hhe, ehe⟩ := ix_get (f := D.str) (xs := ks) (i := mix c 1 / 192 % 3) (by omega) (by rw [l3]; omega)
    have eF : D.tup [.int (mix c 2 % 7 - 3), .int 1] = fD ((mix c 2 % 7 - 3 : Int) : Rat) := rfl
    split
    · refine ⟨sm _ (by decide) (by decide), by omega, by omega, ?_⟩
      refine lc_all (xs := rngD 0 (1 + mix c 2 / 2 % 3).toNat) (fun _ d => ∃ w : Str, d = .str w ∧ asc 12 w) (by rw [rng_len]; omega) (fun i x hx K N hK => ?_) fun acc hal hac => ?_
      · obtain ⟨hi, rfl⟩ := rng_at hx
        simp! [dSeq]
        obtain ⟨w, hw, ew⟩ := ix_get (f := D.str) (xs := ts) (i := (mix c 2).fdiv (2 + 5 * (0 + (i : Int))) % 6) (by
          exact Int.emod_nonneg _ (by decide)) (by rw [l6]; exact Int.emod_lt_of_pos _ (by decide))
        refine ⟨sm _ (by decide) (by decide), sm _ (by omega) (by omega), by omega, sm _ (by omega) (by omega), ?_⟩
        rw [ew]
        exact hK _ ⟨w, rfl, at' _ hw⟩
      obtain ⟨us, rfl, ul, ua⟩ := all hal hac
      rw [rng_len] at ul
      intro U hU
      refine ⟨sm _ (by decide) (by decide), ?_⟩
      rw [eti]
      refine ⟨sm _ (by decide) (by decide), ?_⟩
      rw [ehe]
      intro r hr
      have rU : r ≠ U := fun e => by rw [e, upd_at] at hr; cases hr
      have hr2 : updM M P (.lst (ps.map .str)) r = none := by rw [upd_ne rU] at hr; exact hr
      have rP : r ≠ P := fun e => by rw [e, upd_at] at hr2; cases hr2
      have hr3 : M r = none := by rw [upd_ne rP] at hr2; exact hr2
      have UP : U ≠ P := fun e => by rw [e, upd_at] at hU; cases hU
      have hU3 : M U = none := by rw [upd_ne UP] at hU; exact hU
      refine ⟨_, leM.refl _, h r _ ⟨ti, he, ps, ((mix c 2 % 7 - 3 : Int) : Rat), g, some us⟩ ⟨⟨P, .ref U, by rw [upd_at]; rfl, by rw [upd_ne rP.symm, upd_ne UP.symm, upd_at], rP.symm, hP, .inr ⟨us, U, rfl, rfl, by rw [upd_ne rU.symm, upd_at], rU.symm, UP, hU3⟩⟩, hr3, ((leM.upd hP).updO hU3).updO hr3, at' _ hti, ak _ hhe, pa, by show ps.length ≤ 5; omega, ag, fun us' e => ?_⟩⟩
      injection e with e
      subst e
      exact ⟨by omega, ua⟩
    · refine ⟨sm _ (by decide) (by decide), ?_⟩
      rw [eti]
      refine ⟨sm _ (by decide) (by decide), ?_⟩
      rw [ehe]
      intro r hr
      have rP : r ≠ P := fun e => by rw [e, upd_at] at hr; cases hr
      have hr3 : M r = none := by rw [upd_ne rP] at hr; exact hr
      refine ⟨_, leM.refl _, h r _ ⟨ti, he, ps, ((mix c 2 % 7 - 3 : Int) : Rat), g, none⟩ ⟨⟨P, .non, by rw [upd_at]; rfl, by rw [upd_ne rP.symm, upd_at], rP.symm, hP, .inl ⟨rfl, rfl⟩⟩, hr3, (leM.upd hP).updO hr3, at' _ hti, ak _ hhe, pa, by show ps.length ≤ 5; omega, ag, fun us' e => by cases e⟩⟩
  · exact h.elim
theorem ix_getT {α : Type} {f : α → D} {xs : List α} {i : Int} (h0 : 0 ≤ i) (h1 : i < xs.length) : ∃ x ∈ xs, ∀ Q : D → Prop, oIx (.tup (xs.map f)) (.int i) Q ↔ Q (f x) := by
  have hl : i.toNat < xs.length := by omega
  exact ⟨xs[i.toNat], List.getElem_mem _, fun Q => by
    rw [(ix_lt h0 (by rw [List.length_map]; exact h1)).2, List.getD_eq_getElem?_getD, List.getElem?_map, List.getElem?_eq_getElem hl]; rfl⟩
theorem ne_strs {xs : List Str} (h : ∀ w ∈ xs, asc 100 w) (Q : D → Prop) : oNe (.lst (xs.map .str)) (.lst []) Q = Q (.bl (decide (xs ≠ []))) := by
  have p1 : pl 1 (.lst (xs.map .str)) = true := by
    show List.all _ (pl 0) = true
    rw [List.all_eq_true]
    intro d hd
    obtain ⟨w, hw, rfl⟩ := List.mem_map.mp hd
    exact ((h w hw).ok).1
  rw [ne_ll (n := 1) p1 rfl (by decide) (decide (xs = [])) ⟨fun z => by rw [of_decide_eq_true z]; rfl, fun z => decide_eq_true (List.map_eq_nil_iff.mp z)⟩]
  by_cases z : xs = []
  · rw [decide_eq_true z, decide_eq_false (fun y => y z)]; rfl
  · rw [decide_eq_false z, decide_eq_true z]; rfl
theorem set_strs {xs : List Str} {j : Nat} {w : Str} : (xs.map D.str).set j (.str w) = (xs.set j w).map .str := (List.map_set ..).symm
def sp_l_faulty : SpM := fun ds M Q _ => match ds with
  | [.ref r, .int m] => ∃ (n : Nat) (x : Ru) (M0 : Mu), n ≤ 37 ∧ 0 ≤ m ∧ RowAt M0 M r n x ∧ ∀ M' x', RowAt M0 M' r (n + 13) x' → Q .non M'
  | _ => False
theorem r_l_faulty (ds M Q E) (h : sp_l_faulty ds M Q E) : t_l_faulty (pur sp_l_spoilt_k08) (endsOf Q E) (startE [false, false] 5 ds) M := by
  unfold sp_l_faulty at h
  split at h
  · rename_i r m
    obtain ⟨n, x, M0, n37, m0, row, h⟩ := h
    obtain ⟨t, hd, ps, wt, g, un⟩ := x
    obtain ⟨P, ud, a1, a2, a3, a4, a5⟩ := row.at'
    have sm : ∀ i : Int, 0 ≤ i → i < 100000 → Sm i := fun i h1 h2 => sm_lit (by omega) (by omega)
    have same : RowAt M0 M r (n + 13) ⟨t, hd, ps, wt, g, un⟩ := ⟨row.at', row.fr, row.le, row.t.mono (by omega), row.h.mono (by omega), fun w hw => (row.p w hw).mono (by omega), row.pl, row.g.mono (by omega), fun us hu => ⟨(row.u us hu).1, fun w hw => ((row.u us hu).2 w hw).mono (by omega)⟩⟩
    have d0 : 0 ≤ m / 7 := by omega
    have p0 : 0 ≤ m % 7 ∧ m % 7 < 7 := by omega
    simp! [t_l_faulty]
    generalize m / 7 = st at *
    generalize m % 7 = pl at *
    let I := fun (k : Int) (ρ : List Ent) (M' : Mu) => (∃ e4 : Ent, ρ = [.dat (.ref r), .dat (.int m), .dat (.int pl), .dat (.int st), e4]) ∧ ((pl < k ∧ ∃ x', RowAt M0 M' r (n + 13) x') ∨ (k ≤ pl ∧ M' = M))
    have skip : ∀ {k : Int} {ρ : List Ent} {M' : Mu}, I k ρ M' → pl ≠ k → I (k + 1) ρ M' := fun {k ρ M'} ⟨h1, h2⟩ ne => ⟨h1, h2.elim (fun q => .inl ⟨by omega, q.2⟩) fun q => .inr ⟨by omega, q.2⟩⟩
    have now : ∀ {k : Int} {ρ : List Ent} {M' : Mu}, I k ρ M' → pl = k → (∃ e4 : Ent, ρ = [.dat (.ref r), .dat (.int m), .dat (.int pl), .dat (.int st), e4]) ∧ M' = M := fun {k ρ M'} ⟨h1, h2⟩ e => ⟨h1, h2.elim (fun q => absurd q.1 (by omega)) fun q => q.2⟩
    have put : ∀ {k : Int} {M' : Mu} {e4 : Ent} (x' : Ru), pl = k → RowAt M0 M' r (n + 13) x' → I (k + 1) [.dat (.ref r), .dat (.int m), .dat (.int pl), .dat (.int st), e4] M' := fun {k M' e4} x' e q => ⟨⟨_, rfl⟩, .inl ⟨by omega, x', q⟩⟩
    have mono : ∀ {w : Str}, asc n w → asc (n + 13) w := fun h => h.mono (by omega)
    have hr := row.fr
    have hle := row.le
    have ru := row.u
    have rp := row.p
    have rpl := row.pl
    have rt := row.t
    have rh := row.h
    have rg := row.g
    have setr : ∀ t' hd' g', asc (n + 13) t' → asc (n + 13) hd' → asc (n + 13) g' → RowAt M0 (updM M r (.lst [.str t', .str hd', .ref P, fD wt, .str g', ud])) r (n + 13) ⟨t', hd', ps, wt, g', un⟩ := fun t' hd' g' q1 q2 q3 => by
      refine ⟨⟨P, ud, upd_at, by rw [upd_ne a3]; exact a2, a3, a4, ?_⟩, hr, hle.updO hr, q1, q2, fun w hw => mono (rp w hw), rpl, q3, fun us hu => ⟨(ru us hu).1, fun w hw => mono ((ru us hu).2 w hw)⟩⟩
      rcases a5 with a5 | ⟨us, U, b1, b2, b3, b4, b5, b6⟩
      · exact .inl a5
      · exact .inr ⟨us, U, b1, b2, by rw [upd_ne b4]; exact b3, b4, b5, b6⟩
    have setP : ∀ ps' : List Str, (∀ w ∈ ps', asc (n + 13) w) → ps'.length ≤ 5 → RowAt M0 (updM M P (.lst (ps'.map .str))) r (n + 13) ⟨t, hd, ps', wt, g, un⟩ := fun ps' q1 q2 => by
      refine ⟨⟨P, ud, by rw [upd_ne a3.symm]; exact a1, upd_at, a3, a4, ?_⟩, hr, hle.updO a4, mono rt, mono rh, q1, q2, mono rg, fun us hu => ⟨(ru us hu).1, fun w hw => mono ((ru us hu).2 w hw)⟩⟩
      rcases a5 with a5 | ⟨us, U, b1, b2, b3, b4, b5, b6⟩
      · exact .inl a5
      · exact .inr ⟨us, U, b1, b2, by rw [upd_ne b5]; exact b3, b4, b5, b6⟩
    have setN : ∀ (ps' : List Str) (P' : Addr), M P' = none → (∀ w ∈ ps', asc (n + 13) w) → ps'.length ≤ 5 → RowAt M0 (updM (updM M P' (.lst (ps'.map .str))) r (.lst [.str t, .str hd, .ref P', fD wt, .str g, ud])) r (n + 13) ⟨t, hd, ps', wt, g, un⟩ := fun ps' P' hP q1 q2 => by
      have rP : P' ≠ r := fun e => by rw [e, a1] at hP; cases hP
      refine ⟨⟨P', ud, upd_at, by rw [upd_ne rP, upd_at], rP, hle.none hP, ?_⟩, hr, (hle.updO (hle.none hP)).updO hr, mono rt, mono rh, q1, q2, mono rg, fun us hu => ⟨(ru us hu).1, fun w hw => mono ((ru us hu).2 w hw)⟩⟩
      rcases a5 with a5 | ⟨us, U, b1, b2, b3, b4, b5, b6⟩
      · exact .inl a5
      · have UP : U ≠ P' := fun e => by rw [e, hP] at b3; cases b3
        exact .inr ⟨us, U, b1, b2, by rw [upd_ne b4, upd_ne UP]; exact b3, b4, UP, b6⟩
    have setE : ∀ (U' : Addr), M U' = none → RowAt M0 (updM (updM M U' (.lst [])) r (.lst [.str t, .str hd, .ref P, fD wt, .str g, .ref U'])) r (n + 13) ⟨t, hd, ps, wt, g, some []⟩ := fun U' hU => by
      have rU : U' ≠ r := fun e => by rw [e, a1] at hU; cases hU
      have PU : P ≠ U' := fun e => by rw [← e, a2] at hU; cases hU
      exact ⟨⟨P, .ref U', upd_at, by rw [upd_ne a3, upd_ne PU]; exact a2, a3, a4, .inr ⟨[], U', rfl, rfl, by rw [upd_ne rU, upd_at]; rfl, rU, PU.symm, hle.none hU⟩⟩, hr, (hle.updO (hle.none hU)).updO hr, mono rt, mono rh, fun w hw => mono (rp w hw), rpl, mono rg, fun us hu => by injection hu with hu; subst hu; exact ⟨Nat.zero_le _, fun w hw => nomatch hw⟩⟩
    have setU : ∀ (us : List Str) (U : Addr), un = some us → ud = .ref U → M U = some (.lst (us.map .str)) → U ≠ r → U ≠ P → M0 U = none → ∀ us' : List Str, us'.length ≤ 3 → (∀ w ∈ us', asc (n + 13) w) → RowAt M0 (updM M U (.lst (us'.map .str))) r (n + 13) ⟨t, hd, ps, wt, g, some us'⟩ := fun us U e1 e2 e3 e4 e5 e6 us' q1 q2 => by
      subst e2
      exact ⟨⟨P, .ref U, by rw [upd_ne e4.symm]; exact a1, by rw [upd_ne e5.symm]; exact a2, a3, a4, .inr ⟨us', U, rfl, rfl, upd_at, e4, e5, e6⟩⟩, hr, hle.updO e6, mono rt, mono rh, fun w hw => mono (rp w hw), rpl, mono rg, fun us hu => by injection hu with hu; subst hu; exact ⟨q1, q2⟩⟩
    have lh := rh.len
    have big : (16777216 : Nat) = 16777216 := rfl
    have ix0 : ixN 6 0 = some 0 := by decide +kernel
    have ix1 : ixN 6 1 = some 1 := by decide +kernel
    have ix2 : ixN 6 2 = some 2 := by decide +kernel
    have ix4 : ixN 6 4 = some 4 := by decide +kernel
    have ix5 : ixN 6 5 = some 5 := by decide +kernel
    refine ⟨sm _ (by decide) (by decide), I 1, ?_, ?_⟩
    · simp! [a1]
      split
      · rename_i z
        refine ⟨n, by omega, rt, d0, fun u hu => ⟨0, ix0, put _ z (setr u hd g hu (mono rh) (mono rg))⟩⟩
      · rename_i z
        exact ⟨⟨_, rfl⟩, .inr ⟨by omega, rfl⟩⟩
    rintro ρ M1 hI
    refine ⟨I 2, ?_, ?_⟩
    · by_cases z : pl = 1
      · obtain ⟨⟨e4, rfl⟩, rfl⟩ := now hI z
        simp! [a1]
        rw [if_pos z]
        refine ⟨n, by omega, rh, d0, fun u hu => ⟨Nat.le_trans lh (by omega), sm _ (by decide) (by decide), ?_⟩⟩
        obtain ⟨v, hv, ev⟩ : ∃ v, asc (n + 13) v ∧ ∀ Q : D → Prop, oIx (.tup [.str u, .str (Txt.lower hd)]) (.int (st / 18 % 2)) Q = Q (.str v) := by
          have : st / 18 % 2 = 0 ∨ st / 18 % 2 = 1 := by omega
          rcases this with e | e <;> rw [e]
          · exact ⟨u, hu, fun Q => oIx_t0⟩
          · exact ⟨_, mono rh.lower, fun Q => oIx_t1⟩
        rw [ev]
        exact ⟨1, ix1, put _ z (setr t v g (mono rt) hv (mono rg))⟩
      · obtain ⟨⟨e4, rfl⟩, hj⟩ := id hI
        simp! [dSeq]
        rw [if_neg z]
        exact skip hI z
    rintro ρ M1 hI
    refine ⟨I 3, ?_, ?_⟩
    · by_cases z : pl = 2
      · obtain ⟨⟨e4, rfl⟩, rfl⟩ := now hI z
        simp! [a1, a2]
        rw [if_pos z]
        rw [ne_strs fun w hw => (rp w hw).mono (by omega)]
        dsimp only
        by_cases hp : ps = []
        · rw [if_neg (by simp [hp])]
          exact put _ z same
        rw [if_pos (decide_eq_true hp)]
        have pl1 : 0 < ps.length := List.length_pos_iff.mpr hp
        rw [List.length_map, Int.fmod_eq_emod_of_nonneg _ (by omega)]
        have q0 := Int.emod_nonneg st (show ((ps.length : Nat) : Int) ≠ 0 by omega)
        have q1 := Int.emod_lt_of_pos st (show (0 : Int) < ((ps.length : Nat) : Int) by omega)
        obtain ⟨w, hw, ew⟩ := ix_get (f := D.str) (xs := ps) (i := st % ((ps.length : Nat) : Int)) q0 q1
        have aw := rp w hw
        have lw := aw.len
        have lcw : (cutS w (some 1) none).length ≤ n := aw.cut.len
        have a12 : asc 12 (Str.ofString "abcdefghijkl") := by unfold asc; decide +kernel
        have a1' : asc 1 (Str.ofString ",") := by unfold asc; decide +kernel
        have l12 := a12.len
        have l1' := a1'.len
        refine ⟨by omega, ?_⟩
        simp! [ew]
        refine ⟨by omega, by omega, by omega, sm _ (by decide) (by decide), ?_⟩
        obtain ⟨v, hv, ev⟩ := ix_getT (f := D.str) (xs := [Str.ofString "", w ++ Str.ofString "abcdefghijkl", Str.ofString "," ++ cutS w (some 1) none, Str.ofString "?"]) (i := st / 4 % 4) (by omega) (by show _ < (4 : Int); omega)
        have av : asc (n + 13) v := by
          simp only [List.mem_cons, List.not_mem_nil, or_false] at hv
          rcases hv with rfl | rfl | rfl | rfl
          · exact asc.mono (n := 0) (by unfold asc; decide +kernel) (by omega)
          · exact (aw.app a12).mono (by omega)
          · exact (a1'.app aw.cut).mono (by omega)
          · exact asc.mono (n := 1) (by unfold asc; decide +kernel) (by omega)
        refine (ev _).mpr ⟨(st % ((ps.length : Nat) : Int)).toNat, by unfold ixN; rw [if_pos q0, if_pos (by omega)], ?_⟩
        rw [set_strs]
        refine put _ z (setP _ (fun u hu => ?_) (by rw [List.length_set]; exact rpl))
        rcases List.mem_or_eq_of_mem_set hu with q | q
        · exact mono (rp u q)
        · rw [q]; exact av
      · obtain ⟨⟨e4, rfl⟩, hj⟩ := id hI
        simp! [dSeq]
        rw [if_neg z]
        exact skip hI z
    rintro ρ M1 hI
    refine ⟨I 4, ?_, ?_⟩
    · by_cases z : pl = 3
      · obtain ⟨⟨e4, rfl⟩, rfl⟩ := now hI z
        simp! [a1, a2]
        rw [if_pos z]
        rw [ne_strs fun w hw => (rp w hw).mono (by omega)]
        dsimp only
        by_cases hp : ps = []
        · rw [if_neg (by simp [hp])]
          exact put _ z same
        rw [if_pos (decide_eq_true hp)]
        have pl1 : 0 < ps.length := List.length_pos_iff.mpr hp
        obtain ⟨w, hw, ew⟩ := ix_get (f := D.str) (xs := ps) (i := 0) (by omega) (by omega)
        rw [ew]
        have rU : ∀ {U' : Addr}, M1 U' = none → r ≠ U' := fun hU e => by rw [← e, a1] at hU; cases hU
        have : st % 2 = 0 ∨ st % 2 = 1 := by omega
        rcases this with e | e <;> rw [e]
        · rw [show ∀ Q : D → Prop, oIx (.tup [.int 0, .int 5]) (.int 0) Q = Q (.int 0) from fun Q => oIx_t0]
          refine ⟨by decide, by decide, by decide, fun P' hP => ?_⟩
          rw [upd_ne (rU hP), a1]
          exact ⟨trivial, 2, ix2, put _ z (setN [] P' hP (fun w hw => nomatch hw) (by decide))⟩
        · rw [show ∀ Q : D → Prop, oIx (.tup [.int 0, .int 5]) (.int 1) Q = Q (.int 5) from fun Q => oIx_t1]
          refine ⟨by decide, by decide, by decide, fun P' hP => ?_⟩
          rw [upd_ne (rU hP), a1]
          refine ⟨trivial, 2, ix2, put _ z (setN [w, w, w, w, w] P' hP (fun v hv => ?_) (Nat.le_refl _))⟩
          simp only [List.mem_cons, List.not_mem_nil, or_false, or_self] at hv
          rw [hv]
          exact mono (rp w hw)
      · obtain ⟨⟨e4, rfl⟩, hj⟩ := id hI
        simp! [dSeq]
        rw [if_neg z]
        exact skip hI z
    rintro ρ M1 hI
    refine ⟨I 5, ?_, ?_⟩
    · by_cases z : pl = 4
      · obtain ⟨⟨e4, rfl⟩, rfl⟩ := now hI z
        simp! [a1, a2]
        rw [if_pos z]
        obtain ⟨v, hv, ev⟩ := ix_getT (f := D.str) (xs := [Str.ofString "abcdefghijklm", Str.ofString "Tag", Str.ofString "t-g", Str.ofString " "]) (i := st % 4) (by omega) (by show _ < (4 : Int); omega)
        have av : asc (n + 13) v := by
          simp only [List.mem_cons, List.not_mem_nil, or_false] at hv
          rcases hv with rfl | rfl | rfl | rfl <;> exact asc.mono (n := 13) (by unfold asc; decide +kernel) (by omega)
        exact (ev _).mpr ⟨4, ix4, put _ z (setr t hd v (mono rt) (mono rh) av)⟩
      · obtain ⟨⟨e4, rfl⟩, hj⟩ := id hI
        simp! [dSeq]
        rw [if_neg z]
        exact skip hI z
    rintro ρ M1 hI
    refine ⟨I 6, ?_, ?_⟩
    · by_cases z : pl = 5
      · obtain ⟨⟨e4, rfl⟩, rfl⟩ := now hI z
        simp! [a1, a2]
        rw [if_pos z]
        intro U' hU
        have rU : r ≠ U' := fun e => by rw [← e, a1] at hU; cases hU
        rw [upd_ne rU, a1]
        exact ⟨trivial, 5, ix5, put _ z (setE U' hU)⟩
      · obtain ⟨⟨e4, rfl⟩, hj⟩ := id hI
        simp! [dSeq]
        rw [if_neg z]
        exact skip hI z
    rintro ρ M1 hI
    by_cases z : pl = 6
    · obtain ⟨⟨e4, rfl⟩, rfl⟩ := now hI z
      rcases a5 with ⟨u0, rfl⟩ | ⟨us, U, u1, rfl, b3, b4, b5, b6⟩
      · simp! [a1, a2]
        rw [if_pos z]
        exact h _ _ same
      · simp! [a1, a2, b3]
        rw [if_pos z]
        have r3 := (ru us u1).1
        have ra := (ru us u1).2
        rw [ne_strs fun w hw => (ra w hw).mono (by omega)]
        dsimp only
        by_cases hp : us = []
        · rw [if_neg (by simp [hp])]
          exact h _ _ same
        rw [if_pos (decide_eq_true hp)]
        have pl1 : 0 < us.length := List.length_pos_iff.mpr hp
        rw [List.length_map, Int.fmod_eq_emod_of_nonneg _ (by omega)]
        have q0 := Int.emod_nonneg st (show ((us.length : Nat) : Int) ≠ 0 by omega)
        have q1 := Int.emod_lt_of_pos st (show (0 : Int) < ((us.length : Nat) : Int) by omega)
        refine ⟨sm _ (by decide) (by decide), ?_⟩
        obtain ⟨v, hv, ev⟩ := ix_getT (f := D.str) (xs := [Str.ofString "", Str.ofString "abcdefghijklm", Str.ofString "Title", Str.ofString "t "]) (i := st / 3 % 4) (by omega) (by show _ < (4 : Int); omega)
        have av : asc (n + 13) v := by
          simp only [List.mem_cons, List.not_mem_nil, or_false] at hv
          rcases hv with rfl | rfl | rfl | rfl <;> exact asc.mono (n := 13) (by unfold asc; decide +kernel) (by omega)
        refine (ev _).mpr ⟨by omega, (st % ((us.length : Nat) : Int)).toNat, by unfold ixN; rw [if_pos q0, if_pos (by omega)], ?_⟩
        rw [set_strs]
        refine h _ _ (setU us U u1 rfl b3 b4 b5 b6 _ (by rw [List.length_set]; exact r3) fun u hu => ?_)
        rcases List.mem_or_eq_of_mem_set hu with q | q
        · exact mono (ra u q)
        · rw [q]; exact av
    · obtain ⟨⟨e4, rfl⟩, hj⟩ := id hI
      simp! [dSeq]
      rw [if_neg z]
      rcases hj with ⟨_, x', hx'⟩ | ⟨q, _⟩
      · exact h _ x' hx'
      · omega
  · exact h.elim
theorem lcS_mapM {a : Addr} {G : DTG} {U : DTT} {T : DTE} {ws : List Nat} {xs : List D} {ρ : List Ent} {M : Mu} {Q : List D → Mu → Prop} (f : D → D) (ha : M a = some (.lst xs)) (hl : xs.length ≤ 16000000) (h : ∀ x ∈ xs, ∀ (K : D → Mu → Prop) (N : Mu → Prop), K (f x) M → G x (wipeE ρ ws) fun ρ2 => U ρ2 M (fun b M2 => if b = true then T ρ2 M2 K (fun _ _ => False) else N M2) (fun _ _ => False))
    (hq : Q (xs.map f) M) : dLcSI a G U T ws xs ρ M Q := by
  refine ⟨fun i acc M' => acc = (xs.take i).map f ∧ M' = M, ⟨rfl, rfl⟩, fun i acc M' ⟨_, e⟩ => by rw [e]; exact ha, ?_, ?_⟩
  · rintro i x hx acc M' ⟨rfl, rfl⟩
    have hi := (List.getElem?_eq_some_iff.mp hx).1
    refine ⟨?_, h x (List.mem_of_getElem? hx) _ _ ⟨?_, rfl⟩⟩
    · rw [List.length_map, List.length_take, sizeLine_eq]; omega
    · rw [List.take_add_one, hx]; simp
  · rintro acc M' ⟨rfl, rfl⟩
    rw [List.take_length]; exact hq
def sp_l_good : SpM := fun ds M Q _ => match ds with
  | [.ref r] => ∃ (n : Nat) (x : Ru) (M0 : Mu), n ≤ 100 ∧ RowAt M0 M r n x ∧ Q (.bl (ruGood x)) M
  | _ => False
theorem r_l_good (ds M Q E) (h : sp_l_good ds M Q E) : t_l_good (pur sp_l_is_word) (pur sp_l_is_kind) (pur sp_l_is_name) (endsOf Q E) (startE [false] 3 ds) M := by
  unfold sp_l_good at h
  split at h
  · rename_i r
    obtain ⟨n, x, M0, hn, row, h⟩ := h
    have ok := row.ok hn
    obtain ⟨t, hd, ps, wt, g, un⟩ := x
    obtain ⟨P, ud, a1, a2, a3, a4, a5⟩ := row.at'
    have bad : ruGood ⟨t, hd, ps, wt, g, un⟩ = false → Q (.bl false) M := fun z => by rw [z] at h; exact h
    simp! [t_l_good, a1, a2, sp_l_is_word, sp_l_is_kind, sp_is_word, sp_is_kind]
    refine ⟨ok.t.sz, ?_⟩
    cases h1 : wordB t with
    | false =>
      rw [if_pos rfl]
      exact bad (by unfold ruGood; dsimp only; rw [h1]; rfl)
    | true =>
      rw [if_neg (by decide)]
      refine ⟨ok.h.sz, ?_⟩
      cases h2 : kindB hd with
      | false =>
        rw [if_pos rfl]
        exact bad (by unfold ruGood; dsimp only; rw [h1, h2]; rfl)
      | true =>
        rw [if_neg (by decide)]
        have g3 : partsB ps = false → Q (.bl false) M := fun z => bad (by unfold ruGood; dsimp only; rw [h1, h2, z]; rfl)
        by_cases l1 : (1 : Int) ≤ (ps.map D.str).length
        · by_cases l2 : (((ps.map D.str).length : Nat) : Int) ≤ 4
          · rw [if_pos l1, if_pos l2]
            rw [List.length_map] at l1 l2
            refine lcS_mapM (fun d => match d with | .str w => .bl (nameB w) | _ => .non) a2 (by rw [List.length_map]; omega) (fun d hd K N hK => ?_) ?_
            · obtain ⟨w, hw, rfl⟩ := List.mem_map.mp hd
              simp! [sp_l_is_name, sp_is_name]
              exact ⟨(ok.p w hw).sz, hK⟩
            rw [List.map_map, show ((fun d => match d with | D.str w => D.bl (nameB w) | _ => .non) ∘ D.str) = fun w => D.bl (nameB w) from rfl]
            simp! [oAll_bls, a1]
            have g3 : ps.all nameB = false → Q (.bl false) M := fun z => g3 (by unfold partsB; rw [z, Bool.and_false])
            cases h3 : ps.all nameB with
            | false =>
              rw [if_pos rfl]
              exact g3 h3
            | true =>
              rw [if_neg (by decide)]
              have h3' : partsB ps = true := by unfold partsB; rw [h3, decide_eq_true (by omega)]; rfl
              have fin : tagB g = true → Q (.bl (underB un)) M := fun z => by
                have e : ruGood ⟨t, hd, ps, wt, g, un⟩ = underB un := by unfold ruGood; dsimp only; rw [h1, h2, h3', z]; rfl
                rw [e] at h
                exact h
              have badg : tagB g = false → Q (.bl false) M := fun z => bad (by unfold ruGood; dsimp only; rw [h1, h2, h3', z]; rfl)
              clear h bad g3
              rcases a5 with ⟨rfl, rfl⟩ | ⟨us, U, rfl, rfl, b3, b4, b5, b6⟩
              · simp! [a1]
                split
                · rename_i z
                  exact fin (by unfold tagB; rw [decide_eq_true z]; rfl)
                · rename_i z
                  refine ⟨ok.g.sz, ?_⟩
                  cases h4 : wordB g with
                  | false =>
                    rw [if_pos rfl]
                    exact badg (by unfold tagB; rw [decide_eq_false z, h4]; rfl)
                  | true =>
                    rw [if_neg (by decide)]
                    exact fin (by unfold tagB; rw [h4, Bool.or_true])
              · have fin2 : tagB g = true → ∀ Q1 : D → Prop, (∀ b, b = underB (some us) → Q1 (.bl b)) → True := fun _ _ _ => trivial
                simp! [a1, b3]
                have tail : tagB g = true → if (0 : Int) < ((us.map D.str).length : Nat) then dLcSI U (dgName 2) dYes (dCall (pur sp_is_word) (dCons (dVar 2) dNil)) [2] (us.map D.str) [.dat (.ref r), .un, .un] M (fun ds M1 => oAll [.lst ds] fun d => Q d M1) else Q (.bl false) M := fun z => by
                  have f := fin z
                  obtain ⟨u1, u2⟩ := ok.u us rfl
                  rw [List.length_map]
                  split
                  · rename_i z0
                    refine lcS_mapM (fun d => match d with | .str w => .bl (wordB w) | _ => .non) b3 (by rw [List.length_map]; omega) (fun d hd K N hK => ?_) ?_
                    · obtain ⟨w, hw, rfl⟩ := List.mem_map.mp hd
                      simp! [sp_is_word]
                      exact ⟨(u2 w hw).sz, hK⟩
                    rw [List.map_map, show ((fun d => match d with | D.str w => D.bl (wordB w) | _ => .non) ∘ D.str) = fun w => D.bl (wordB w) from rfl, oAll_bls]
                    have e : underB (some us) = us.all wordB := by
                      show (decide (us ≠ []) && us.all wordB) = _
                      rw [decide_eq_true (show us ≠ [] from fun e => by rw [e] at z0; exact absurd z0 (by decide))]; rfl
                    rw [e] at f
                    exact f
                  · rename_i z0
                    have e : underB (some us) = false := by
                      show (decide (us ≠ []) && us.all wordB) = _
                      rw [List.length_eq_zero_iff.mp (show us.length = 0 by omega)]; rfl
                    rw [e] at f
                    exact f
                split
                · rename_i z
                  exact tail (by unfold tagB; rw [decide_eq_true z]; rfl)
                · rename_i z
                  refine ⟨ok.g.sz, ?_⟩
                  cases h4 : wordB g with
                  | false =>
                    rw [if_pos rfl]
                    exact badg (by unfold tagB; rw [decide_eq_false z, h4]; rfl)
                  | true =>
                    rw [if_neg (by decide)]
                    exact tail (by unfold tagB; rw [h4, Bool.or_true])
          · rw [if_pos l1, if_neg l2]
            exact g3 (by unfold partsB; rw [decide_eq_false (by rw [List.length_map] at l2; omega)]; rfl)
        · rw [if_neg l1]
          exact g3 (by unfold partsB; rw [decide_eq_false (by rw [List.length_map] at l1; omega)]; rfl)
  · exact h.elim
def sp_l_is : SpM := fun ds M Q _ => match ds with
  | [ru, .ref r] => ∃ (n : Nat) (x : Ru) (M0 : Mu), n ≤ 100 ∧ RowAt M0 M r n x ∧ ru = ruD x ∧ Q (.bl true) M
  | _ => False
theorem r_l_is (ds M Q E) (h : sp_l_is ds M Q E) : t_l_is (endsOf Q E) (startE [false, false] 2 ds) M := by
  unfold sp_l_is at h
  split at h
  · rename_i ru r
    obtain ⟨n, x, M0, hn, row, rfl, h⟩ := h
    have ok := row.ok hn
    obtain ⟨P, ud, a1, a2, a3, a4, a5⟩ := row.at'
    have e1 : ∀ Q : D → Prop, oNe (.tup (x.parts.map .str)) (.tup (x.parts.map .str)) Q = Q (.bl false) := fun Q => ne_strT ok.p
    rcases a5 with ⟨u0, rfl⟩ | ⟨us, U, u1, rfl, b3, b4, b5, b6⟩
    · simp! [t_l_is, a1, a2, drf_ru, fld_title, fld_head, fld_weight, fld_tag, fld_parts, fld_under, ne_fD, drf_fD, strT, tyS, Option.isSome, e1, u0, undD]
      exact h
    · have e2 : ∀ Q : D → Prop, oEq (.tup (us.map .str)) (.tup (us.map .str)) Q = Q (.bl true) := fun Q => eq_strT (ok.u us u1).2
      simp! [t_l_is, a1, a2, b3, drf_ru, fld_title, fld_head, fld_weight, fld_tag, fld_parts, fld_under, ne_fD, drf_fD, strT, tyS, Option.isSome, e1, u1, undD, e2]
      exact h
  · exact h.elim
def sp_l_made : SpM := fun ds M Q _ => match ds with
  | [.ref r, .int m] => ∃ (n : Nat) (x : Ru) (M0 : Mu), n ≤ 100 ∧ 0 ≤ m ∧ RowAt M0 M r n x ∧ (if ruGood x = true then Q (.tup [ruD x, .bl false]) M else Q (.tup [.non, .bl true]) M)
  | _ => False
theorem eq_marks {Q : D → Prop} (h : Q (.bl true)) : oEq (D.lst ([D.bl true, D.bl true, D.bl false] ++ [D.bl false, D.bl false])) (.lst [D.bl true, D.bl true, D.bl false, D.bl false, D.bl false]) Q := by
  refine ⟨by decide +kernel, by decide +kernel, ?_⟩
  rw [show PyData.eqv (D.lst ([D.bl true, D.bl true, D.bl false] ++ [D.bl false, D.bl false])).py (D.lst [D.bl true, D.bl true, D.bl false, D.bl false, D.bl false]).py = true by decide +kernel]
  exact h
theorem r_l_made (ds M Q E) (h : sp_l_made ds M Q E) : t_l_made sp_Rule_init (endsW Q E) (startE [false, false] 7 ds) M := by
  unfold sp_l_made at h
  split at h
  · rename_i r m
    obtain ⟨n, x, M0, hn, m0, row, h⟩ := h
    have ok := row.ok hn
    obtain ⟨P, ud, a1, a2, a3, a4, a5⟩ := row.at'
    have pl := ok.pl
    have m4 : m % 4 = 0 ∨ m % 4 = 1 ∨ m % 4 = 2 ∨ m % 4 = 3 := by omega
    rcases a5 with ⟨u0, rfl⟩ | ⟨us, U, u1, rfl, b3, b4, b5, b6⟩
    · have go : ∀ (ps : D) (gg : Str) (K : D → Mu → Prop) (E' : Str → Mu → Prop) (a : Addr), M a = none → seqOf ps x.parts → x.tag = gg → (ruGood x = true → K .non (updM M a (.ins "Rule" (ruF x)))) → (ruGood x = false → E' "NoRule" (updM M a (.ins "Rule" []))) → sp_Rule_init [.ref a, .str x.title, .str x.head, ps, fD x.weight, .str gg, .non] (updM M a (.ins "Rule" [])) K E' := fun ps gg K E' a ha hp e k1 k2 => by
        refine ⟨upd_at, x, rfl, rfl, hp, rfl, e, by rw [u0]; rfl, ok, ?_⟩
        cases hg : ruGood x with
        | true => rw [if_pos rfl, upd_updM]; exact k1 hg
        | false => rw [if_neg (by decide)]; exact k2 hg
      simp! [t_l_made, a1, a2]
      have leaf1 : ∀ a, M a = none → ruGood x = true → D.non = D.non ∧ ∃ fs, updM M a (.ins "Rule" (ruF x)) a = some (.ins "Rule" fs) ∧ (x.parts.map D.str).length < 16777216 ∧ ∃ M2, leM M2 (delM (updM M a (.ins "Rule" (ruF x))) a) ∧ Q (.tup [.obj "Rule" fs, .bl false]) M2 := fun a ha hg => by
        rw [hg, if_pos rfl] at h
        exact ⟨rfl, _, upd_at, by rw [List.length_map]; omega, M, by rw [del_up ha]; exact leM.refl M, h⟩
      have leaf2 : ∀ a, M a = none → ruGood x = false → oEq (D.lst ([D.bl true, D.bl true, D.bl false] ++ [D.bl false, D.bl false])) (.lst [D.bl true, D.bl true, D.bl false, D.bl false, D.bl false]) fun d => ∃ M2, leM M2 (delM (updM M a (.ins "Rule" [])) a) ∧ Q (.tup [.non, d]) M2 := fun a ha hg => by
        rw [hg, if_neg (by decide)] at h
        exact eq_marks ⟨M, by rw [del_up ha]; exact leM.refl M, h⟩
      repeat' split
      all_goals
        intro a ha
        first
        | refine go _ _ _ _ a ha (.inl rfl) (by first | rfl | assumption) (fun hg => leaf1 a ha hg) (fun hg => ?_)
        | refine go _ _ _ _ a ha (.inr rfl) (by first | rfl | assumption) (fun hg => leaf1 a ha hg) (fun hg => ?_)
        repeat rw [isC_exc (.inr rfl) rfl]
        repeat rw [isC_exc (.inl rfl) rfl]
        exact .inl ⟨by decide +kernel, by rw [List.length_map]; omega, leaf2 a ha hg⟩
    · have go : ∀ (ps u : D) (gg : Str) (K : D → Mu → Prop) (E' : Str → Mu → Prop) (a : Addr), M a = none → seqOf ps x.parts → seqOf u us → x.tag = gg → (ruGood x = true → K .non (updM M a (.ins "Rule" (ruF x)))) → (ruGood x = false → E' "NoRule" (updM M a (.ins "Rule" []))) → sp_Rule_init [.ref a, .str x.title, .str x.head, ps, fD x.weight, .str gg, u] (updM M a (.ins "Rule" [])) K E' := fun ps u gg K E' a ha hp hu e k1 k2 => by
        refine ⟨upd_at, x, rfl, rfl, hp, rfl, e, by rw [u1]; exact hu, ok, ?_⟩
        cases hg : ruGood x with
        | true => rw [if_pos rfl, upd_updM]; exact k1 hg
        | false => rw [if_neg (by decide)]; exact k2 hg
      have ul := (ok.u us u1).1
      simp! [t_l_made, a1, a2, b3]
      have leaf1 : ∀ a, M a = none → ruGood x = true → D.non = D.non ∧ ∃ fs, updM M a (.ins "Rule" (ruF x)) a = some (.ins "Rule" fs) ∧ (x.parts.map D.str).length < 16777216 ∧ (us.map D.str).length < 16777216 ∧ ∃ M2, leM M2 (delM (updM M a (.ins "Rule" (ruF x))) a) ∧ Q (.tup [.obj "Rule" fs, .bl false]) M2 := fun a ha hg => by
        rw [hg, if_pos rfl] at h
        exact ⟨rfl, _, upd_at, by rw [List.length_map]; omega, by rw [List.length_map]; omega, M, by rw [del_up ha]; exact leM.refl M, h⟩
      have leaf2 : ∀ a, M a = none → ruGood x = false → oEq (D.lst ([D.bl true, D.bl true, D.bl false] ++ [D.bl false, D.bl false])) (.lst [D.bl true, D.bl true, D.bl false, D.bl false, D.bl false]) fun d => ∃ M2, leM M2 (delM (updM M a (.ins "Rule" [])) a) ∧ Q (.tup [.non, d]) M2 := fun a ha hg => by
        rw [hg, if_neg (by decide)] at h
        exact eq_marks ⟨M, by rw [del_up ha]; exact leM.refl M, h⟩
      repeat' split
      all_goals
        intro a ha
        first
        | refine go _ _ _ _ _ a ha (.inl rfl) (.inl rfl) (by first | rfl | assumption) (fun hg => leaf1 a ha hg) (fun hg => ?_)
        | refine go _ _ _ _ _ a ha (.inl rfl) (.inr rfl) (by first | rfl | assumption) (fun hg => leaf1 a ha hg) (fun hg => ?_)
        repeat rw [isC_exc (.inr rfl) rfl]
        repeat rw [isC_exc (.inl rfl) rfl]
        exact .inl ⟨by decide +kernel, by rw [List.length_map]; omega, by rw [List.length_map]; omega, leaf2 a ha hg⟩
  · exact h.elim
theorem oAll_trues {α : Type} {xs : List α} {Q : D → Prop} : oAll [.lst (xs.map fun _ => D.bl true)] Q = Q (.bl true) := by
  have e : bls (xs.map fun _ => D.bl true) = some (xs.map fun _ => true) := by
    have := bls_map (xs.map fun _ => true)
    rw [List.map_map] at this
    exact this
  have e2 : (xs.map fun _ => true).all id = true := by rw [List.all_map]; exact List.all_eq_true.mpr fun _ _ => rfl
  exact propext ⟨fun ⟨bs, h1, h2⟩ => by rw [e] at h1; cases h1; rw [e2] at h2; exact h2, fun h => ⟨_, e, by rw [e2]; exact h⟩⟩
def heldD (q : Addr × Ru) : D := .tup [ruD q.2, .ref q.1]
theorem r_law_k08 (ds M Q E) (h : spLaw ds M Q E) : t_law_k08 (pur sp_l_names) (pur sp_l_at) sp_l_row (pur sp_l_mix) sp_l_faulty sp_l_made sp_l_good sp_l_is (endsW Q E) (startE [false] 9 ds) M := by
  obtain ⟨ns, rfl, hl, h⟩ := h
  have k5 : kOk 5 := ⟨by decide, by decide⟩
  have k6 : kOk 6 := ⟨by decide, by decide⟩
  have sm : ∀ i : Int, 0 ≤ i → i < 100000 → Sm i := fun i h1 h2 => sm_lit (by omega) (by omega)
  simp! [t_law_k08, e_l_at]
  refine ⟨by decide, by decide, by decide +kernel, by decide +kernel, by decide +kernel, by decide +kernel, by decide +kernel, fun ts tl _ tn _ => ?_⟩
  refine ⟨by decide, by decide, by decide +kernel, by decide +kernel, by decide +kernel, by decide +kernel, by decide +kernel, fun ws wl _ wn _ => ?_⟩
  refine ⟨by decide, by decide, by decide +kernel, by decide +kernel, by decide +kernel, by decide +kernel, by decide +kernel, fun ks kl _ kn _ => ?_⟩
  refine ⟨by simp, ?_⟩
  have nms : [D.lst (ts.map .str)] ++ [D.lst (ws.map .str)] ++ [D.lst (ks.map .str)] = [D.lst (ts.map .str), D.lst (ws.map .str), D.lst (ks.map .str)] := rfl
  rw [nms]
  have ta : ∀ w ∈ ts, asc 12 w := fun w hw => asc_name (tn w hw).1
  have wa : ∀ w ∈ ws, asc 12 w := fun w hw => asc_name (wn w hw).1
  have ka : ∀ w ∈ ks, asc 12 w := fun w hw => asc_name (kn w hw).1
  generalize hnm : [D.lst (ts.map .str), D.lst (ws.map .str), D.lst (ks.map .str)] = nm
  have cells : ∀ (i : Nat) d, (cutD (ns.map D.int) (some 3) (some 63))[i]? = some d → ∃ c, d = .int c := fun i d hd => by
    have h1 := List.mem_of_getElem? hd
    unfold cutD at h1
    have h2 := List.mem_of_mem_drop (List.mem_of_mem_take h1)
    obtain ⟨c, _, rfl⟩ := List.mem_map.mp h2
    exact ⟨c, rfl⟩
  have few : (cutD (ns.map D.int) (some 3) (some 63)).length ≤ 63 := by
    unfold cutD
    rw [List.length_take, List.length_drop, List.length_map]
    omega
  generalize cutD (ns.map D.int) (some 3) (some 63) = cs' at cells few
  refine ⟨fun i ρ M2 => ∃ (H : List (Addr × Ru)) (e1 e3 e4 e5 e6 e7 : Ent), ρ = [.dat (.lst (ns.map .int)), e1, .own (H.map heldD), e3, e4, e5, e6, e7, .un] ∧ (e1 = .own nm ∨ e1 = .dat (.lst nm)) ∧ H.length ≤ i ∧ (∀ q ∈ H, ∃ M0, RowAt M0 M2 q.1 100 q.2) ∧ leM M M2, ⟨[], _, _, _, _, _, _, rfl, .inl rfl, Nat.le_refl _, (fun q hq => nomatch hq), leM.refl M⟩, ?_, ?_⟩
  · rintro i d hd ρ M2 ⟨H, e1, e3, e4, e5, e6, e7, rfl, he, hl2, hH, le⟩
    have il := (List.getElem?_eq_some_iff.mp hd).1
    obtain ⟨cl, rfl⟩ := cells i d hd
    have m5 := mix_lo cl 5
    have m6 := mix_lo cl 6
    have hH' : H.length < 16777216 := by omega
    rcases he with rfl | rfl
    all_goals
      simp! [dSeq]
      refine ⟨ts, ws, ks, hnm.symm, tl, wl, kl, ta, wa, ka, fun r M3 x row => ?_⟩
      simp! [sp_l_mix, k5]
      obtain ⟨v, hv, ev⟩ := ix_getT (f := D.int) (xs := [0, 1, 0, 1, 0, 2]) (i := mix cl 5 % 6) (by omega) (by show _ < (6 : Int); omega)
      refine (ev _).mpr ?_
      have v2 : 0 ≤ v ∧ v ≤ 2 := by
        simp only [List.mem_cons, List.not_mem_nil, or_false] at hv
        rcases hv with rfl | rfl | rfl | rfl | rfl | rfl <;> omega
      refine ⟨by omega, by omega, ?_⟩
      refine ⟨fun k ρ M4 => (∃ e6 : Ent, ρ = [.dat (.lst (ns.map .int)), .dat (.lst nm), .own (H.map heldD), .dat (.int cl), .dat (.ref r), .dat (.int (mix cl 5)), e6, e7, .un]) ∧ ∃ x, RowAt M2 M4 r (12 + 13 * k) x, ⟨⟨_, rfl⟩, x, row⟩, ?_, ?_⟩
      · rintro k d hd ρ M4 ⟨⟨e6, rfl⟩, x4, row4⟩
        obtain ⟨hk, rfl⟩ := rng_at hd
        simp! [dSeq]
        refine ⟨sm _ (by decide) (by decide), sm _ (by omega) (by omega), by omega, sm _ (by omega) (by omega), ?_⟩
        refine ⟨12 + 13 * k, x4, M2, by omega, Int.fdiv_nonneg m5 (by omega), row4, fun M5 x5 row5 => ?_⟩
        exact ⟨⟨_, rfl⟩, x5, by rw [show 12 + 13 * (k + 1) = 12 + 13 * k + 13 by omega]; exact row5⟩
      · rintro ρ M4 ⟨⟨e6, rfl⟩, x4, row4⟩
        rw [rng_len] at row4
        have n100 : 12 + 13 * v.toNat ≤ 100 := by omega
        have up : RowAt M2 M4 r 100 x4 := ⟨row4.at', row4.fr, row4.le, row4.t.mono n100, row4.h.mono n100, fun w hw => (row4.p w hw).mono n100, row4.pl, row4.g.mono n100, fun us hu => ⟨(row4.u us hu).1, fun w hw => ((row4.u us hu).2 w hw).mono n100⟩⟩
        have H4 : ∀ q ∈ H, ∃ M0, RowAt M0 M4 q.1 100 q.2 := fun q hq => by
          obtain ⟨M0, h0⟩ := hH q hq
          exact ⟨M0, h0.mono row4.le⟩
        simp! [sp_l_mix, k6]
        refine ⟨100, x4, M2, by decide, m6, up, ?_⟩
        cases hg : ruGood x4 with
        | true =>
          rw [if_pos rfl]
          simp! [dSeq]
          refine ⟨100, x4, M2, by decide, up, ?_⟩
          rw [hg]
          have nn : ∀ M, (drf M (ruD x4)).isNon = false := fun _ => rfl
          simp! [nn]
          refine ⟨by rw [List.length_map]; exact hH', H ++ [(r, x4)], _, _, _, _, _, _, by rw [List.map_append]; rfl, .inr rfl, by rw [List.length_append, List.length_singleton]; omega, fun q hq => ?_, le.trans row4.le⟩
          rcases List.mem_append.mp hq with z | z
          · exact H4 q z
          · rw [List.mem_singleton.mp z]
            exact ⟨M2, up⟩
        | false =>
          rw [if_neg (by decide)]
          simp! [dSeq]
          refine ⟨100, x4, M2, by decide, up, ?_⟩
          rw [hg]
          simp! [dSeq]
          exact ⟨H, _, _, _, _, _, _, rfl, .inr rfl, by omega, H4, le.trans row4.le⟩
  · rintro ρ M2 ⟨H, e1, e3, e4, e5, e6, e7, rfl, he, hl2, hH, le⟩
    simp! [dSeq]
    refine lc_of (f := fun _ => D.bl true) (by omega) (fun q hq K N hK => ?_) ?_
    · obtain ⟨M0, row⟩ := hH q hq
      unfold heldD
      simp! [drf_ru]
      exact ⟨100, q.2, M0, by decide, row, rfl, hK⟩
    · rw [oAll_trues]
      exact ⟨M, le, h⟩
end
end Z
namespace Z
namespace K08
open PySem PySem.Spec PyProof.Rows L2
theorem sc_l_mix : FnScope ["_law_cell", "_law_k", "_law_factor", "_law_number"] ["_law_cell", "_law_k"] (defScope s_l_mix) := ⟨rfl, rfl, rfl, by decide +kernel, rfl, by decide +kernel, by decide +kernel⟩
theorem ok_l_mix {B : Bx} {base : Heap} {j : Nat} {f : Addr} {fd : FuncData} {sp : SpM} (F : FunD B.K "_law_mix" "_law_mix" (defArgs s_l_mix) (defBody s_l_mix) (defScope s_l_mix) [] [] f fd)
    (spec : ∀ ds M Q E, sp ds M Q E → t_l_mix (endsOf Q E) (startE [false, false] 4 ds) M) : FnB B base (j + 1) f fd ["_law_cell", "_law_k"] [false, false] sp :=
  fnok_of F sc_l_mix (fun cdv A outer s H E hr tk hp =>
 (dss_cons (ds_set (i := 2) sc_l_mix.nd (de_ix hr (DE.r (DN.fz (dn_lst (dm_e de_int (dm_e de_int (dm_e de_int (dm_e de_int (dm_e de_int (dm_e de_int (dm_e de_int dm_nil)))))))))) (DE.r (de_mod (dr_var 1) (DE.r de_int)))))
 (dss_cons (ds_set (i := 3) sc_l_mix.nd (de_mod (DE.r (de_mulA (DE.r (de_add (DE.r (de_add (DE.r (de_mod (dr_var 0) (DE.r de_int))) (DE.r (de_mulA (DE.r (de_mulA (DE.r de_int) (dr_var 1))) (dr_var 1))))) (DE.r de_int))) (dr_var 2))) (DE.r de_int)))
 (dss_one (ds_ret (de_mod (DE.r (de_mulA (dr_var 3) (dr_var 3))) (DE.r de_int))))))) spec
theorem sc_l_names : FnScope ["_law_cell", "_law_many", "_law_firsts", "_law_rest", "_law_number", "_law_start", "_law_tail", "_law_size", "_law_at_here", "_law_j", "_law_k", "_law_sign"] ["_law_cell", "_law_many", "_law_firsts"] (defScope s_l_names) := ⟨rfl, rfl, rfl, by decide +kernel, rfl, by decide +kernel, by decide +kernel⟩
theorem ok_l_names {B : Bx} {base : Heap} {j : Nat} {f : Addr} {fd : FuncData} {sp : SpM} {p_l_mix : SpM} (n_len : B.mg "len" = none) (n_range : B.mg "range" = none) (h_l_mix : Fn B base j "_law_mix" [false, false] p_l_mix) (F : FunD B.K "_law_names" "_law_names" (defArgs s_l_names) (defBody s_l_names) (defScope s_l_names) [] [] f fd)
    (spec : ∀ ds M Q E, sp ds M Q E → t_l_names p_l_mix (endsOf Q E) (startE [false, false, false] 12 ds) M) : FnB B base (j + 1) f fd ["_law_cell", "_law_many", "_law_firsts"] [false, false, false] sp :=
  fnok_of F sc_l_names (fun cdv A outer s H E hr tk hp =>
 (dss_cons (ds_set (i := 3) sc_l_names.nd de_str)
 (dss_cons (ds_set (i := 4) sc_l_names.nd (de_call h_l_mix hr tk (Nat.le_refl _) (dm_e (de_var 0) (dm_e de_int dm_nil))))
 (dss_cons (ds_set (i := 5) sc_l_names.nd (de_mod (DE.r (de_fdiv (dr_var 4) (DE.r de_int))) (DE.r (de_callB call_lenA rf_len n_len (dm_r (dr_var 2) dm_nil)))))
 (dss_cons (ds_set (i := 6) sc_l_names.nd (de_sm (fun ho ha => pe_bm PySem.F.plainAttrs_str PySem.F.slot_str_join PySem.F.type_str_join mt_join ho ha) rf_join (DE.r de_str) (dm_r (DE.r (DN.fz (dn_lc (own := [("_law_j", 9)]) sc_l_names.nd (di_range1 n_range (dm_r (DE.r de_int) dm_nil)) (blkOk_by (own := [("_law_j", 9)]) (N := ["_law_cell", "_law_many", "_law_firsts", "_law_rest", "_law_number", "_law_start", "_law_tail", "_law_size", "_law_at_here", "_law_j", "_law_k", "_law_sign"]) (sc := defScope s_l_names) (by decide +kernel)) (fun _ => (dgk_name (i := 9) sc_l_names.nd)) (fun _ => dts_nil) (fun _ => (de_ix hr (dr_var 3) (DE.r (de_mod (DE.r (de_add (DE.r (de_fdiv (dr_var 4) (DE.r (de_add (dr_var 9) (DE.r de_int))))) (DE.r (de_mulA (dr_var 9) (dr_var 9))))) (DE.r de_int)))))))) dm_nil)))
 (dss_cons (ds_if (dt_cmp (op_eqA hr) rf_eq (DE.r (de_mod (dr_var 4) (DE.r de_int))) (DE.r de_int) (nomark _)) (dss_one (ds_ret (DN.fz (dn_lc (own := [("_law_k", 10)]) sc_l_names.nd (di_range1 n_range (dm_r (dr_var 1) dm_nil)) (blkOk_by (own := [("_law_k", 10)]) (N := ["_law_cell", "_law_many", "_law_firsts", "_law_rest", "_law_number", "_law_start", "_law_tail", "_law_size", "_law_at_here", "_law_j", "_law_k", "_law_sign"]) (sc := defScope s_l_names) (by decide +kernel)) (fun _ => (dgk_name (i := 10) sc_l_names.nd)) (fun _ => dts_nil) (fun _ => (de_add (DE.r (de_ix hr (dr_var 2) (dr_var 5))) (DE.r (de_sl (dr_var 6) do_none (do_some (dr_var 10)))))))))) dss_nil)
 (dss_cons (ds_if (dt_cmp (op_eqA hr) rf_eq (DE.r (de_mod (dr_var 4) (DE.r de_int))) (DE.r de_int) (nomark _)) (dss_cons (ds_set (i := 7) sc_l_names.nd (de_mod (DE.r (de_fdiv (dr_var 4) (DE.r de_int))) (DE.r de_int)))
 (dss_one (ds_ret (DN.fz (dn_lc (own := [("_law_k", 10)]) sc_l_names.nd (di_range1 n_range (dm_r (dr_var 1) dm_nil)) (blkOk_by (own := [("_law_k", 10)]) (N := ["_law_cell", "_law_many", "_law_firsts", "_law_rest", "_law_number", "_law_start", "_law_tail", "_law_size", "_law_at_here", "_law_j", "_law_k", "_law_sign"]) (sc := defScope s_l_names) (by decide +kernel)) (fun _ => (dgk_name (i := 10) sc_l_names.nd)) (fun _ => dts_nil) (fun _ => (de_add (DE.r (de_ix hr (dr_var 2) (DE.r (de_mod (DE.r (de_add (dr_var 5) (dr_var 10))) (DE.r (de_callB call_lenA rf_len n_len (dm_r (dr_var 2) dm_nil))))))) (DE.r (de_sl (dr_var 6) do_none (do_some (dr_var 7))))))))))) dss_nil)
 (dss_cons (ds_set (i := 7) sc_l_names.nd (de_mod (DE.r (de_fdiv (dr_var 4) (DE.r de_int))) (DE.r de_int)))
 (dss_cons (ds_set (i := 8) sc_l_names.nd (de_mod (DE.r (de_fdiv (dr_var 4) (DE.r de_int))) (DE.r (de_add (dr_var 7) (DE.r de_int)))))
 (dss_cons (ds_set (i := 3) sc_l_names.nd (DN.fz (dn_lc (own := [("_law_k", 10)]) sc_l_names.nd (di_range1 n_range (dm_r (dr_var 1) dm_nil)) (blkOk_by (own := [("_law_k", 10)]) (N := ["_law_cell", "_law_many", "_law_firsts", "_law_rest", "_law_number", "_law_start", "_law_tail", "_law_size", "_law_at_here", "_law_j", "_law_k", "_law_sign"]) (sc := defScope s_l_names) (by decide +kernel)) (fun _ => (dgk_name (i := 10) sc_l_names.nd)) (fun _ => dts_nil) (fun _ => (de_ix hr (dr_var 3) (DE.r (de_mod (DE.r (de_add (DE.r (de_fdiv (dr_var 4) (DE.r de_int))) (dr_var 10))) (DE.r de_int))))))))
 (dss_one (ds_ret (DN.fz (dn_lc (own := [("_law_sign", 11)]) sc_l_names.nd (di_any (de_var 3)) (blkOk_by (own := [("_law_sign", 11)]) (N := ["_law_cell", "_law_many", "_law_firsts", "_law_rest", "_law_number", "_law_start", "_law_tail", "_law_size", "_law_at_here", "_law_j", "_law_k", "_law_sign"]) (sc := defScope s_l_names) (by decide +kernel)) (fun _ => (dgk_name (i := 11) sc_l_names.nd)) (fun _ => dts_nil) (fun _ => (de_add (DE.r (de_add (DE.r (de_add (DE.r (de_ix hr (dr_var 2) (dr_var 5))) (DE.r (de_sl (dr_var 6) do_none (do_some (dr_var 8)))))) (dr_var 11))) (DE.r (de_sl (dr_var 6) (do_some (dr_var 8)) (do_some (dr_var 7)))))))))))))))))))) spec
theorem sc_l_at : FnScope ["_law_script", "_law_k"] ["_law_script", "_law_k"] (defScope s_l_at) := ⟨rfl, rfl, rfl, by decide +kernel, rfl, by decide +kernel, by decide +kernel⟩
theorem ok_l_at {B : Bx} {base : Heap} {j : Nat} {f : Addr} {fd : FuncData} {sp : SpM} (n_len : B.mg "len" = none) (F : FunD B.K "_law_at" "_law_at" (defArgs s_l_at) (defBody s_l_at) (defScope s_l_at) [] [] f fd)
    (spec : ∀ ds M Q E, sp ds M Q E → t_l_at (endsOf Q E) (startE [false, false] 2 ds) M) : FnB B base (j + 1) f fd ["_law_script", "_law_k"] [false, false] sp :=
  fnok_of F sc_l_at (fun cdv A outer s H E hr tk hp =>
 (dss_cons (ds_if (dt_cmp op_lt rf_lt (dr_var 1) (DE.r (de_callB call_lenA rf_len n_len (dm_r (dr_var 0) dm_nil))) (nomark _)) (dss_one (ds_ret (de_ix hr (dr_var 0) (dr_var 1)))) dss_nil)
 (dss_one (ds_ret de_int)))) spec
theorem sc_l_row : FnScope ["_law_cell", "_law_names_here", "_law_m", "_law_n", "_law_some", "_law_parts", "_law_tag", "_law_under", "_law_k"] ["_law_cell", "_law_names_here"] (defScope s_l_row) := ⟨rfl, rfl, rfl, by decide +kernel, rfl, by decide +kernel, by decide +kernel⟩
theorem ok_l_row {B : Bx} {base : Heap} {j : Nat} {f : Addr} {fd : FuncData} {sp : SpM} {p_l_mix : SpM} (n_range : B.mg "range" = none) (n_len : B.mg "len" = none) (h_l_mix : Fn B base j "_law_mix" [false, false] p_l_mix) (F : FunD B.K "_law_row" "_law_row" (defArgs s_l_row) (defBody s_l_row) (defScope s_l_row) [] [] f fd)
    (spec : ∀ ds M Q E, sp ds M Q E → t_l_row p_l_mix (endsW Q E) (startE [false, false] 9 ds) M) : FnB B base (j + 1) f fd ["_law_cell", "_law_names_here"] [false, false] sp :=
  fnok_ofW F sc_l_row (fun cdv A outer s H E hr tk hp =>
 (dss_cons (ds_set (i := 2) sc_l_row.nd (de_call h_l_mix hr tk (Nat.le_refl _) (dm_e (de_var 0) (dm_e de_int dm_nil))))
 (dss_cons (ds_set (i := 3) sc_l_row.nd (de_call h_l_mix hr tk (Nat.le_refl _) (dm_e (de_var 0) (dm_e de_int dm_nil))))
 (dss_cons (ds_set (i := 4) sc_l_row.nd (de_add (DE.r (de_ix hr (dr_var 1) (DE.r de_int))) (DE.r (de_ix hr (dr_var 1) (DE.r de_int)))))
 (dss_cons (ds_setLcM (j := 5) (own := [("_law_k", 8)]) sc_l_row.nd (di_range1 n_range (dm_r (DE.r (de_add (DE.r de_int) (DE.r (de_mod (dr_var 2) (DE.r de_int))))) dm_nil)) (blkOk_by (own := [("_law_k", 8)]) (N := ["_law_cell", "_law_names_here", "_law_m", "_law_n", "_law_some", "_law_parts", "_law_tag", "_law_under", "_law_k"]) (sc := defScope s_l_row) (by decide +kernel)) (fun _ => (dgk_name (i := 8) sc_l_row.nd)) (fun _ => dts_nil) (fun _ => (de_ix hr (dr_var 4) (DE.r (de_mod (DE.r (de_call h_l_mix hr takes0 (Nat.le_refl _) (dm_e (de_var 0) (dm_e (de_add (DE.r de_int) (dr_var 8)) dm_nil)))) (DE.r (de_callB call_lenA rf_len n_len (dm_r (dr_var 4) dm_nil))))))))
 (dss_cons (ds_set (i := 6) sc_l_row.nd (de_ix hr (DE.r (DN.fz (dn_lst (dm_e de_str (dm_e (de_ix hr (DE.r (de_ix hr (dr_var 1) (DE.r de_int))) (DE.r (de_mod (DE.r (de_fdiv (dr_var 2) (DE.r de_int))) (DE.r de_int)))) dm_nil))))) (DE.r (de_mod (DE.r (de_fdiv (dr_var 2) (DE.r de_int))) (DE.r de_int)))))
 (dss_cons (ds_set (i := 7) sc_l_row.nd de_non)
 (dss_cons (ds_if (dt_cmp (op_eqA hr) rf_eq (DE.r (de_mod (dr_var 3) (DE.r de_int))) (DE.r de_int) (nomark _)) (dss_one (ds_setLcM (j := 7) (own := [("_law_k", 8)]) sc_l_row.nd (di_range1 n_range (dm_r (DE.r (de_add (DE.r de_int) (DE.r (de_mod (DE.r (de_fdiv (dr_var 3) (DE.r de_int))) (DE.r de_int))))) dm_nil)) (blkOk_by (own := [("_law_k", 8)]) (N := ["_law_cell", "_law_names_here", "_law_m", "_law_n", "_law_some", "_law_parts", "_law_tag", "_law_under", "_law_k"]) (sc := defScope s_l_row) (by decide +kernel)) (fun _ => (dgk_name (i := 8) sc_l_row.nd)) (fun _ => dts_nil) (fun _ => (de_ix hr (DE.r (de_ix hr (dr_var 1) (DE.r de_int))) (DE.r (de_mod (DE.r (de_fdiv (dr_var 3) (DE.r (de_add (DE.r de_int) (DE.r (de_mulA (DE.r de_int) (dr_var 8))))))) (DE.r de_int))))))) dss_nil)
 (dss_one (ds_ret (DN.sto (dn_lst (dm_e (de_ix hr (DE.r (de_ix hr (dr_var 1) (DE.r de_int))) (DE.r (de_mod (DE.r (de_fdiv (dr_var 2) (DE.r de_int))) (DE.r de_int)))) (dm_e (de_ix hr (DE.r (de_ix hr (dr_var 1) (DE.r de_int))) (DE.r (de_mod (DE.r (de_fdiv (dr_var 2) (DE.r de_int))) (DE.r de_int)))) (dm_e (de_var 5) (dm_e (de_tup (dm_e (de_sub (DE.r (de_mod (dr_var 3) (DE.r de_int))) (DE.r de_int)) (dm_e de_int dm_nil))) (dm_e (de_var 6) (dm_e (de_var 7) dm_nil)))))))))))))))))) spec
theorem sc_l_spoilt_k08 : FnScope ["_law_text", "_law_number", "_law_some"] ["_law_text", "_law_number"] (defScope s_l_spoilt_k08) := ⟨rfl, rfl, rfl, by decide +kernel, rfl, by decide +kernel, by decide +kernel⟩
theorem ok_l_spoilt_k08 {B : Bx} {base : Heap} {j : Nat} {f : Addr} {fd : FuncData} {sp : SpM} (F : FunD B.K "_law_spoilt" "_law_spoilt" (defArgs s_l_spoilt_k08) (defBody s_l_spoilt_k08) (defScope s_l_spoilt_k08) [] [] f fd)
    (spec : ∀ ds M Q E, sp ds M Q E → t_l_spoilt_k08 (endsOf Q E) (startE [false, false] 3 ds) M) : FnB B base (j + 1) f fd ["_law_text", "_law_number"] [false, false] sp :=
  fnok_of F sc_l_spoilt_k08 (fun cdv A outer s H E hr tk hp =>
 (dss_cons (ds_set (i := 2) sc_l_spoilt_k08.nd (DN.fz (dn_lst (dm_e de_str (dm_e (de_add (dr_var 0) (DE.r de_str)) (dm_e (de_add (DE.r de_str) (DE.r (de_sl (dr_var 0) (do_some (DE.r de_int)) do_none))) (dm_e (de_add (DE.r (de_sl (dr_var 0) do_none (do_some (DE.r de_int)))) (DE.r de_str)) (dm_e (de_add (dr_var 0) (DE.r de_str)) (dm_e de_str dm_nil)))))))))
 (dss_cons (ds_if (DW.t (dw_and (dt_cmp (op_neA hr) rf_ne (dr_var 0) (DE.r de_str) (nomark _)) (dw_and1 (dt_cmp (op_eqA hr) rf_eq (DE.r (de_mod (DE.r (de_fdiv (dr_var 1) (DE.r de_int))) (DE.r de_int))) (DE.r de_int) (nomark _))))) (dss_one (ds_ret (de_add (DE.r (de_sm0 (fun ho => pe_bm0 PySem.F.plainAttrs_str PySem.F.slot_str_upper PySem.F.type_str_upper mt_upper ho) rf_upper (DE.r (de_ix hr (dr_var 0) (DE.r de_int))))) (DE.r (de_sl (dr_var 0) (do_some (DE.r de_int)) do_none))))) dss_nil)
 (dss_one (ds_ret (de_ix hr (dr_var 2) (DE.r (de_mod (dr_var 1) (DE.r de_int))))))))) spec
theorem sc_l_faulty : FnScope ["_law_row_here", "_law_number", "_law_place", "_law_step", "_law_at_here"] ["_law_row_here", "_law_number"] (defScope s_l_faulty) := ⟨rfl, rfl, rfl, by decide +kernel, rfl, by decide +kernel, by decide +kernel⟩
theorem ok_l_faulty {B : Bx} {base : Heap} {j : Nat} {f : Addr} {fd : FuncData} {sp : SpM} {p_l_spoilt_k08 : SpM} (n_len : B.mg "len" = none) (h_l_spoilt_k08 : Fn B base j "_law_spoilt" [false, false] p_l_spoilt_k08) (F : FunD B.K "_law_faulty" "_law_faulty" (defArgs s_l_faulty) (defBody s_l_faulty) (defScope s_l_faulty) [] [] f fd)
    (spec : ∀ ds M Q E, sp ds M Q E → t_l_faulty p_l_spoilt_k08 (endsOf Q E) (startE [false, false] 5 ds) M) : FnB B base (j + 1) f fd ["_law_row_here", "_law_number"] [false, false] sp :=
  fnok_of F sc_l_faulty (fun cdv A outer s H E hr tk hp =>
 (dss_cons (ds_set (i := 2) sc_l_faulty.nd (de_mod (dr_var 1) (DE.r de_int)))
 (dss_cons (ds_set (i := 3) sc_l_faulty.nd (de_fdiv (dr_var 1) (DE.r de_int)))
 (dss_cut (ds_if (dt_cmp (op_eqA hr) rf_eq (dr_var 2) (DE.r de_int) (nomark _)) (dss_one (ds_store 0 (fun hk => pg_sub (pv 0) hk set_list) (de_call h_l_spoilt_k08 hr tk (Nat.le_refl _) (dm_e (de_ix hr (dr_var 0) (DE.r de_int)) (dm_e (de_var 3) dm_nil))) (DE.r de_int))) dss_nil)
 (dss_cut (ds_if (dt_cmp (op_eqA hr) rf_eq (dr_var 2) (DE.r de_int) (nomark _)) (dss_one (ds_store 0 (fun hk => pg_sub (pv 0) hk set_list) (de_ix hr (DE.r (de_tup (dm_e (de_call h_l_spoilt_k08 hr tk (Nat.le_refl _) (dm_e (de_ix hr (dr_var 0) (DE.r de_int)) (dm_e (de_var 3) dm_nil))) (dm_e (de_sm0 (fun ho => pe_bm0 PySem.F.plainAttrs_str PySem.F.slot_str_lower PySem.F.type_str_lower mt_lower ho) rf_lower (DE.r (de_ix hr (dr_var 0) (DE.r de_int)))) dm_nil)))) (DE.r (de_mod (DE.r (de_fdiv (dr_var 3) (DE.r de_int))) (DE.r de_int)))) (DE.r de_int))) dss_nil)
 (dss_cut (ds_if (DW.t (dw_and (dt_cmp (op_eqA hr) rf_eq (dr_var 2) (DE.r de_int) (nomark _)) (dw_and1 (dt_cmp (op_neA hr) rf_ne (DE.r (de_ix hr (dr_var 0) (DE.r de_int))) (DE.r (DN.fz (dn_lst dm_nil))) (nomark _))))) (dss_cons (ds_set (i := 4) sc_l_faulty.nd (de_mod (dr_var 3) (DE.r (de_callB call_lenA rf_len n_len (dm_r (DE.r (de_ix hr (dr_var 0) (DE.r de_int))) dm_nil)))))
 (dss_one (ds_storeX (fun ho hk => pg_sub ho hk set_list) (de_ix hr (DE.r (de_tup (dm_e de_str (dm_e (de_add (DE.r (de_ix hr (DE.r (de_ix hr (dr_var 0) (DE.r de_int))) (dr_var 4))) (DE.r de_str)) (dm_e (de_add (DE.r de_str) (DE.r (de_sl (DE.r (de_ix hr (DE.r (de_ix hr (dr_var 0) (DE.r de_int))) (dr_var 4))) (do_some (DE.r de_int)) do_none))) (dm_e de_str dm_nil)))))) (DE.r (de_mod (DE.r (de_fdiv (dr_var 3) (DE.r de_int))) (DE.r de_int)))) (de_ix hr (dr_var 0) (DE.r de_int)) (dr_var 4)))) dss_nil)
 (dss_cut (ds_if (DW.t (dw_and (dt_cmp (op_eqA hr) rf_eq (dr_var 2) (DE.r de_int) (nomark _)) (dw_and1 (dt_cmp (op_neA hr) rf_ne (DE.r (de_ix hr (dr_var 0) (DE.r de_int))) (DE.r (DN.fz (dn_lst dm_nil))) (nomark _))))) (dss_one (ds_store 0 (fun hk => pg_sub (pv 0) hk set_list) (DN.sto (dn_rep (dn_lst (dm_e (de_ix hr (DE.r (de_ix hr (dr_var 0) (DE.r de_int))) (DE.r de_int)) dm_nil)) (de_ix hr (DE.r (de_tup (dm_e de_int (dm_e de_int dm_nil)))) (DE.r (de_mod (dr_var 3) (DE.r de_int)))))) (DE.r de_int))) dss_nil)
 (dss_cut (ds_if (dt_cmp (op_eqA hr) rf_eq (dr_var 2) (DE.r de_int) (nomark _)) (dss_one (ds_store 0 (fun hk => pg_sub (pv 0) hk set_list) (de_ix hr (DE.r (de_tup (dm_e de_str (dm_e de_str (dm_e de_str (dm_e de_str dm_nil)))))) (DE.r (de_mod (dr_var 3) (DE.r de_int)))) (DE.r de_int))) dss_nil)
 (dss_cut (ds_if (dt_cmp (op_eqA hr) rf_eq (dr_var 2) (DE.r de_int) (nomark _)) (dss_one (ds_store 0 (fun hk => pg_sub (pv 0) hk set_list) (DN.sto (dn_lst dm_nil)) (DE.r de_int))) dss_nil)
 (dss_one (ds_if (DW.t (dw_and (dt_cmp (op_eqA hr) rf_eq (dr_var 2) (DE.r de_int) (nomark _)) (dw_and (dt_cmp op_notN rf_notN (DE.r (de_ix hr (dr_var 0) (DE.r de_int))) (DE.r de_non) (nomark _)) (dw_and1 (dt_cmp (op_neA hr) rf_ne (DE.r (de_ix hr (dr_var 0) (DE.r de_int))) (DE.r (DN.fz (dn_lst dm_nil))) (nomark _)))))) (dss_one (ds_storeX (fun ho hk => pg_sub ho hk set_list) (de_ix hr (DE.r (de_tup (dm_e de_str (dm_e de_str (dm_e de_str (dm_e de_str dm_nil)))))) (DE.r (de_mod (DE.r (de_fdiv (dr_var 3) (DE.r de_int))) (DE.r de_int)))) (de_ix hr (dr_var 0) (DE.r de_int)) (DE.r (de_mod (dr_var 3) (DE.r (de_callB call_lenA rf_len n_len (dm_r (DE.r (de_ix hr (dr_var 0) (DE.r de_int))) dm_nil))))))) dss_nil))))))))))) spec
theorem sc_is_name : FnScope ["text", "sign"] ["text"] (defScope s_is_name) := ⟨rfl, rfl, rfl, by decide +kernel, rfl, by decide +kernel, by decide +kernel⟩
theorem ok_is_name {B : Bx} {base : Heap} {j : Nat} {f : Addr} {fd : FuncData} {sp : SpM} (n_len : B.mg "len" = none) (c_SMALL : ∃ t, B.mg "SMALL" = some (.str "abcdefghijklmnopqrstuvwxyz" t)) (c_GREAT : ∃ t, B.mg "GREAT" = some (.str "ABCDEFGHIJKLMNOPQRSTUVWXYZ" t)) (c_FIGURES : ∃ t, B.mg "FIGURES" = some (.str "0123456789" t)) (F : FunD B.K "is_name" "is_name" (defArgs s_is_name) (defBody s_is_name) (defScope s_is_name) [] [] f fd)
    (spec : ∀ ds M Q E, sp ds M Q E → t_is_name (endsOf Q E) (startE [false] 2 ds) M) : FnB B base (j + 1) f fd ["text"] [false] sp :=
  fnok_of F sc_is_name (fun cdv A outer s H E hr tk hp =>
 (dss_cons (ds_if (dt_not (dt_chain op_le rf_le op_le rf_le (DE.r de_int) (DE.r (de_callB call_lenA rf_len n_len (dm_r (dr_var 0) dm_nil))) (DE.r de_int))) (dss_one (ds_ret de_bl)) dss_nil)
 (dss_cons (ds_for hp rfl (di_any (de_var 0)) (dg_name (i := 1) sc_is_name.nd) (dss_one (ds_if (DW.t (dw_and (dt_cmp (op_notInA hr) rf_notIn (dr_var 1) (DE.r (de_gstr c_SMALL.choose_spec)) (by rfl)) (dw_and (dt_cmp (op_notInA hr) rf_notIn (dr_var 1) (DE.r (de_gstr c_GREAT.choose_spec)) (by rfl)) (dw_and1 (dt_cmp (op_notInA hr) rf_notIn (dr_var 1) (DE.r (de_gstr c_FIGURES.choose_spec)) (by rfl)))))) (dss_one (ds_ret de_bl)) dss_nil)))
 (dss_one (ds_ret de_bl))))) spec
theorem sc_is_word : FnScope ["text"] ["text"] (defScope s_is_word) := ⟨rfl, rfl, rfl, by decide +kernel, rfl, by decide +kernel, by decide +kernel⟩
theorem ok_is_word {B : Bx} {base : Heap} {j : Nat} {f : Addr} {fd : FuncData} {sp : SpM} {p_is_name : SpM} (c_GREAT : ∃ t, B.mg "GREAT" = some (.str "ABCDEFGHIJKLMNOPQRSTUVWXYZ" t)) (h_is_name : Fn B base j "is_name" [false] p_is_name) (F : FunD B.K "is_word" "is_word" (defArgs s_is_word) (defBody s_is_word) (defScope s_is_word) [] [] f fd)
    (spec : ∀ ds M Q E, sp ds M Q E → t_is_word p_is_name (endsOf Q E) (startE [false] 1 ds) M) : FnB B base (j + 1) f fd ["text"] [false] sp :=
  fnok_of F sc_is_word (fun cdv A outer s H E hr tk hp =>
 (dss_one (ds_ret (de_and (de_call h_is_name hr tk (Nat.le_refl _) (dm_e (de_var 0) dm_nil)) (de_one (de_cmp (op_notInA hr) rf_notIn (DE.r (de_ix hr (dr_var 0) (DE.r de_int))) (DE.r (de_gstr c_GREAT.choose_spec)) (by rfl))))))) spec
theorem sc_is_kind : FnScope ["text"] ["text"] (defScope s_is_kind) := ⟨rfl, rfl, rfl, by decide +kernel, rfl, by decide +kernel, by decide +kernel⟩
theorem ok_is_kind {B : Bx} {base : Heap} {j : Nat} {f : Addr} {fd : FuncData} {sp : SpM} {p_is_name : SpM} (c_GREAT : ∃ t, B.mg "GREAT" = some (.str "ABCDEFGHIJKLMNOPQRSTUVWXYZ" t)) (h_is_name : Fn B base j "is_name" [false] p_is_name) (F : FunD B.K "is_kind" "is_kind" (defArgs s_is_kind) (defBody s_is_kind) (defScope s_is_kind) [] [] f fd)
    (spec : ∀ ds M Q E, sp ds M Q E → t_is_kind p_is_name (endsOf Q E) (startE [false] 1 ds) M) : FnB B base (j + 1) f fd ["text"] [false] sp :=
  fnok_of F sc_is_kind (fun cdv A outer s H E hr tk hp =>
 (dss_one (ds_ret (de_and (de_call h_is_name hr tk (Nat.le_refl _) (dm_e (de_var 0) dm_nil)) (de_one (de_cmp (op_inA hr) rf_in (DE.r (de_ix hr (dr_var 0) (DE.r de_int))) (DE.r (de_gstr c_GREAT.choose_spec)) (by rfl))))))) spec
theorem sc_all_words : FnScope ["texts", "text"] ["texts"] (defScope s_all_words) := ⟨rfl, rfl, rfl, by decide +kernel, rfl, by decide +kernel, by decide +kernel⟩
theorem ok_all_words {B : Bx} {base : Heap} {j : Nat} {f : Addr} {fd : FuncData} {sp : SpM} {p_is_word : SpM} (n_all : B.mg "all" = none) (h_is_word : Fn B base j "is_word" [false] p_is_word) (F : FunD B.K "all_words" "all_words" (defArgs s_all_words) (defBody s_all_words) (defScope s_all_words) [] [] f fd)
    (spec : ∀ ds M Q E, sp ds M Q E → t_all_words p_is_word (endsOf Q E) (startE [true] 2 ds) M) : FnB B base (j + 1) f fd ["texts"] [true] sp :=
  fnok_of F sc_all_words (fun cdv A outer s H E hr tk hp =>
 (dss_one (ds_ret (de_callB (cr_all rfl) rf_all n_all (dm_r (DE.r (DN.fz (dn_lc (own := [("text", 1)]) sc_all_words.nd (di_borC 0) (blkOk_by (own := [("text", 1)]) (N := ["texts", "text"]) (sc := defScope s_all_words) (by decide +kernel)) (fun _ => (dgk_name (i := 1) sc_all_words.nd)) (fun _ => dts_nil) (fun _ => (de_call h_is_word hr takes0 (Nat.le_refl _) (dm_e (de_var 1) dm_nil)))))) dm_nil))))) spec
theorem sc_Rule_init : FnScope ["self", "title", "head", "parts", "weight", "tag", "under", "part"] ["self", "title", "head", "parts", "weight", "tag", "under"] (defScope s_Rule_init) := ⟨rfl, rfl, rfl, by decide +kernel, rfl, by decide +kernel, by decide +kernel⟩
theorem ok_Rule_init {B : Bx} {base : Heap} {j : Nat} {f : Addr} {fd : FuncData} {sp : SpM} {p_is_word : SpM} {p_is_kind : SpM} {p_is_name : SpM} {p_all_words : SpM} (xc_NoRule : XcF B "NoRule") (n_len : B.mg "len" = none) (n_all : B.mg "all" = none) (fl_title : FldF B "title" ["Rule"]) (fl_head : FldF B "head" ["Rule"]) (fl_parts : FldF B "parts" ["Rule"]) (n_tuple : B.mg "tuple" = none) (fl_weight : FldF B "weight" ["Rule"]) (fl_tag : FldF B "tag" ["Rule"]) (fl_under : FldF B "under" ["Rule"]) (h_is_word : Fn B base j "is_word" [false] p_is_word) (h_is_kind : Fn B base j "is_kind" [false] p_is_kind) (h_is_name : Fn B base j "is_name" [false] p_is_name) (h_all_words : Fn B base j "all_words" [true] p_all_words) (F : FunD B.K "__init__" "Rule.__init__" (defArgs s_Rule_init) (defBody s_Rule_init) (defScope s_Rule_init) [.str "", .non] [] f fd)
    (spec : ∀ ds M Q E, sp ds M Q E → t_Rule_init p_is_word p_is_kind p_is_name p_all_words (endsOf Q E) (startE [false, false, false, true, false, false, true] 8 ds) M) : FnB B base (j + 1) f fd ["self", "title", "head", "parts", "weight", "tag", "under"] [false, false, false, true, false, false, true] sp :=
  fnok_of F sc_Rule_init (fun cdv A outer s H E hr tk hp =>
 (dss_cons (ds_if (DW.t (dw_or (dt_not (dt_tru (DE.r (de_call h_is_word hr tk (Nat.le_refl _) (dm_e (de_var 1) dm_nil))))) (dw_or1 (dt_not (dt_tru (DE.r (de_call h_is_kind hr tk (Nat.le_refl _) (dm_e (de_var 2) dm_nil)))))))) (dss_one (ds_raise tk xc_NoRule)) dss_nil)
 (dss_cons (ds_if (DW.t (dw_or (dt_not (dt_chain op_le rf_le op_le rf_le (DE.r de_int) (DE.r (de_callB call_lenA rf_len n_len (dm_r (dr_var 3) dm_nil))) (DE.r de_int))) (dw_or1 (dt_not (dt_tru (DE.r (de_callB (cr_all rfl) rf_all n_all (dm_r (DE.r (DN.fz (dn_lc (own := [("part", 7)]) sc_Rule_init.nd (di_borC 3) (blkOk_by (own := [("part", 7)]) (N := ["self", "title", "head", "parts", "weight", "tag", "under", "part"]) (sc := defScope s_Rule_init) (by decide +kernel)) (fun _ => (dgk_name (i := 7) sc_Rule_init.nd)) (fun _ => dts_nil) (fun _ => (de_call h_is_name hr takes0 (Nat.le_refl _) (dm_e (de_var 7) dm_nil)))))) dm_nil)))))))) (dss_one (ds_raise tk xc_NoRule)) dss_nil)
 (dss_cons (ds_if (DW.t (dw_and (dt_cmp (op_neA hr) rf_ne (dr_var 5) (DE.r de_str) (nomark _)) (dw_and1 (dt_not (dt_tru (DE.r (de_call h_is_word hr tk (Nat.le_refl _) (dm_e (de_var 5) dm_nil)))))))) (dss_one (ds_raise tk xc_NoRule)) dss_nil)
 (dss_cons (ds_if (DW.t (dw_and (dt_cmp op_notN rf_notN (dr_var 6) (DE.r de_non) (nomark _)) (dw_and1 (DW.t (dw_or (dt_cmp (op_eqA hr) rf_eq (DE.r (de_callB call_lenA rf_len n_len (dm_r (dr_var 6) dm_nil))) (DE.r de_int) (nomark _)) (dw_or1 (dt_not (dt_tru (DE.r (de_call h_all_words hr tk (Nat.le_refl _) (dm_r (dr_var 6) dm_nil))))))))))) (dss_one (ds_raise tk xc_NoRule)) dss_nil)
 (dss_cons (ds_setF fl_title (pv 0) (de_var 1))
 (dss_cons (ds_setF fl_head (pv 0) (de_var 2))
 (dss_cons (ds_setF fl_parts (pv 0) (de_callTy call_tuple_of rf_tuple1 n_tuple (dm_r (dr_var 3) dm_nil)))
 (dss_cons (ds_setF fl_weight (pv 0) (de_var 4))
 (dss_cons (ds_setF fl_tag (pv 0) (de_var 5))
 (dss_cons (ds_setF fl_under (pv 0) (de_varP 6))
 (dss_one (ds_if (dt_cmp op_notN rf_notN (dr_var 6) (DE.r de_non) (nomark _)) (dss_one (ds_setF fl_under (pv 0) (de_callTy call_tuple_of rf_tuple1 n_tuple (dm_r (dr_var 6) dm_nil)))) dss_nil))))))))))))) spec
theorem sc_l_made : FnScope ["_law_row_here", "_law_m", "_law_parts", "_law_under", "_law_made_here", "_law_marks", "e"] ["_law_row_here", "_law_m"] (defScope s_l_made) := ⟨rfl, rfl, rfl, by decide +kernel, rfl, by decide +kernel, by decide +kernel⟩
theorem ok_l_made {B : Bx} {base : Heap} {j : Nat} {f : Addr} {fd : FuncData} {sp : SpM} {p_Rule_init : SpM} {j0 : Nat} (n_list : B.mg "list" = none) (ex_WoodError : ExcF B "WoodError" ["WoodError", "NoLine", "NoScale", "NoRule", "NoWeight", "Twice", "NoTitle", "NoKind", "Ring", "NoNet", "TooMany", "NoTree"] []) (n_tuple : B.mg "tuple" = none) (g_NoRule : B.mg "NoRule" = some (.ref (B.cl "NoRule"))) (is_NoRule : IsF B [.cls "NoRule"] [("NoneType", false)] [("WoodError", false), ("NoLine", false), ("NoScale", false), ("NoRule", true), ("NoWeight", false), ("Twice", false), ("NoTitle", false), ("NoKind", false), ("Ring", false), ("NoNet", false), ("TooMany", false), ("NoTree", false)] []) (n_isinstance : B.mg "isinstance" = none) (n_ValueError : B.mg "ValueError" = none) (is_ValueError : IsF B [.ty "ValueError"] [("NoneType", false)] [("WoodError", true), ("NoLine", true), ("NoScale", true), ("NoRule", true), ("NoWeight", true), ("Twice", true), ("NoTitle", true), ("NoKind", true), ("Ring", true), ("NoNet", true), ("TooMany", true), ("NoTree", true)] []) (g_NoKind : B.mg "NoKind" = some (.ref (B.cl "NoKind"))) (g_NoLine : B.mg "NoLine" = some (.ref (B.cl "NoLine"))) (g_NoNet : B.mg "NoNet" = some (.ref (B.cl "NoNet"))) (g_NoScale : B.mg "NoScale" = some (.ref (B.cl "NoScale"))) (is_NoKind_NoLine_NoNet_NoScale : IsF B [.cls "NoKind", .cls "NoLine", .cls "NoNet", .cls "NoScale"] [("NoneType", false)] [("WoodError", false), ("NoLine", true), ("NoScale", true), ("NoRule", false), ("NoWeight", false), ("Twice", false), ("NoTitle", false), ("NoKind", true), ("Ring", false), ("NoNet", true), ("TooMany", false), ("NoTree", false)] []) (g_NoTitle : B.mg "NoTitle" = some (.ref (B.cl "NoTitle"))) (g_NoTree : B.mg "NoTree" = some (.ref (B.cl "NoTree"))) (g_NoWeight : B.mg "NoWeight" = some (.ref (B.cl "NoWeight"))) (is_NoTitle_NoTree_NoWeight : IsF B [.cls "NoTitle", .cls "NoTree", .cls "NoWeight"] [("NoneType", false)] [("WoodError", false), ("NoLine", false), ("NoScale", false), ("NoRule", false), ("NoWeight", true), ("Twice", false), ("NoTitle", true), ("NoKind", false), ("Ring", false), ("NoNet", false), ("TooMany", false), ("NoTree", true)] []) (g_Ring : B.mg "Ring" = some (.ref (B.cl "Ring"))) (g_TooMany : B.mg "TooMany" = some (.ref (B.cl "TooMany"))) (g_Twice : B.mg "Twice" = some (.ref (B.cl "Twice"))) (is_Ring_TooMany_Twice : IsF B [.cls "Ring", .cls "TooMany", .cls "Twice"] [("NoneType", false)] [("WoodError", false), ("NoLine", false), ("NoScale", false), ("NoRule", false), ("NoWeight", false), ("Twice", true), ("NoTitle", false), ("NoKind", false), ("Ring", true), ("NoNet", false), ("TooMany", true), ("NoTree", false)] []) (h_Rule_2 : MkF B base j0 "Rule" (false :: ([false, false, true, false] ++ [false, true])) [.str "", .non] p_Rule_init) (h_Rule_1 : MkF B base j0 "Rule" (false :: ([false, false, true, false, false] ++ [true])) [.non] p_Rule_init) (h_Rule_0 : MkF B base j0 "Rule" (false :: ([false, false, true, false, false, true] ++ [])) [] p_Rule_init) (hj0 : j0 + 1 ≤ j) (F : FunD B.K "_law_made" "_law_made" (defArgs s_l_made) (defBody s_l_made) (defScope s_l_made) [] [] f fd)
    (spec : ∀ ds M Q E, sp ds M Q E → t_l_made p_Rule_init (endsW Q E) (startE [false, false] 7 ds) M) : FnB B base (j + 1) f fd ["_law_row_here", "_law_m"] [false, false] sp :=
  fnok_ofW F sc_l_made (fun cdv A outer s H E hr tk hp =>
 (dss_cons (ds_own (i := 2) sc_l_made.nd (dn_list n_list (dm_r (DE.r (de_ix hr (dr_var 0) (DE.r de_int))) dm_nil)))
 (dss_cons (ds_set (i := 3) sc_l_made.nd (de_ix hr (dr_var 0) (DE.r de_int)))
 (dss_cons (ds_if (dt_cmp op_notN rf_notN (dr_var 3) (DE.r de_non) (nomark _)) (dss_one (ds_own (i := 3) sc_l_made.nd (dn_list n_list (dm_r (dr_var 3) dm_nil)))) dss_nil)
 (dss_cons (ds_set (i := 4) sc_l_made.nd de_non)
 (dss_cons (ds_set (i := 5) sc_l_made.nd de_non)
 (dss_cons (ds_try (i := 6) sc_l_made.nd tk ex_WoodError (fun _ _ _ tk1 hp1 => (dss_one (ds_if (DW.t (dw_and (dt_cmp (op_eqA hr) rf_eq (DE.r (de_ix hr (dr_var 0) (DE.r de_int))) (DE.r de_str) (nomark _)) (dw_and (dt_cmp op_isN rf_isN (dr_var 3) (DE.r de_non) (nomark _)) (dw_and1 (dt_cmp (op_eqA hr) rf_eq (DE.r (de_mod (dr_var 1) (DE.r de_int))) (DE.r de_int) (nomark _)))))) (dss_one (ds_set (i := 4) sc_l_made.nd (de_make (ms := [false, false, true, false]) (dv := [.str "", .non]) h_Rule_2 hr tk1 hj0 (dm_e (de_ix hr (dr_var 0) (DE.r de_int)) (dm_e (de_ix hr (dr_var 0) (DE.r de_int)) (dm_r (dr_var 2) (dm_e (de_ix hr (dr_var 0) (DE.r de_int)) dm_nil))))))) (dss_one (ds_if (DW.t (dw_and (dt_cmp op_isN rf_isN (dr_var 3) (DE.r de_non) (nomark _)) (dw_and1 (dt_cmp op_lt rf_lt (DE.r (de_mod (dr_var 1) (DE.r de_int))) (DE.r de_int) (nomark _))))) (dss_one (ds_set (i := 4) sc_l_made.nd (de_make (ms := [false, false, true, false, false]) (dv := [.non]) h_Rule_1 hr tk1 hj0 (dm_e (de_ix hr (dr_var 0) (DE.r de_int)) (dm_e (de_ix hr (dr_var 0) (DE.r de_int)) (dm_r (DE.r (de_callTy call_tuple_of rf_tuple1 n_tuple (dm_r (dr_var 2) dm_nil))) (dm_e (de_ix hr (dr_var 0) (DE.r de_int)) (dm_e (de_ix hr (dr_var 0) (DE.r de_int)) dm_nil)))))))) (dss_one (ds_if (DW.t (dw_and (dt_cmp op_notN rf_notN (dr_var 3) (DE.r de_non) (nomark _)) (dw_and1 (dt_cmp (op_eqA hr) rf_eq (DE.r (de_mod (dr_var 1) (DE.r de_int))) (DE.r de_int) (nomark _))))) (dss_one (ds_set (i := 4) sc_l_made.nd (de_make (ms := [false, false, true, false, false, true]) (dv := []) h_Rule_0 hr tk1 hj0 (dm_e (de_ix hr (dr_var 0) (DE.r de_int)) (dm_e (de_ix hr (dr_var 0) (DE.r de_int)) (dm_r (dr_var 2) (dm_e (de_ix hr (dr_var 0) (DE.r de_int)) (dm_e (de_ix hr (dr_var 0) (DE.r de_int)) (dm_r (DE.r (de_callTy call_tuple_of rf_tuple1 n_tuple (dm_r (dr_var 3) dm_nil))) dm_nil))))))))) (dss_one (ds_set (i := 4) sc_l_made.nd (de_make (ms := [false, false, true, false, false, true]) (dv := []) h_Rule_0 hr tk1 hj0 (dm_e (de_ix hr (dr_var 0) (DE.r de_int)) (dm_e (de_ix hr (dr_var 0) (DE.r de_int)) (dm_r (dr_var 2) (dm_e (de_ix hr (dr_var 0) (DE.r de_int)) (dm_e (de_ix hr (dr_var 0) (DE.r de_int)) (dm_r (dr_var 3) dm_nil)))))))))))))))) (fun _ _ => (dss_cons (ds_own (i := 5) sc_l_made.nd (dn_lst (dm_e (de_callB call_isZ (rf_isC is_NoRule) n_isinstance (dm_r (dr_var 6) (dm_e (de_gcls g_NoRule) dm_nil))) (dm_e (de_callB call_isZ (rf_isC is_ValueError) n_isinstance (dm_r (dr_var 6) (dm_e (de_gty n_ValueError) dm_nil))) (dm_e (de_callB call_isZ (rf_isC is_NoKind_NoLine_NoNet_NoScale) n_isinstance (dm_r (dr_var 6) (dm_e (de_tup (dm_e (de_gcls g_NoKind) (dm_e (de_gcls g_NoLine) (dm_e (de_gcls g_NoNet) (dm_e (de_gcls g_NoScale) dm_nil))))) dm_nil))) dm_nil)))))
 (dss_one (ds_augL 5 sc_l_made.nd (DE.r (DN.fz (dn_lst (dm_e (de_callB call_isZ (rf_isC is_NoTitle_NoTree_NoWeight) n_isinstance (dm_r (dr_var 6) (dm_e (de_tup (dm_e (de_gcls g_NoTitle) (dm_e (de_gcls g_NoTree) (dm_e (de_gcls g_NoWeight) dm_nil)))) dm_nil))) (dm_e (de_callB call_isZ (rf_isC is_Ring_TooMany_Twice) n_isinstance (dm_r (dr_var 6) (dm_e (de_tup (dm_e (de_gcls g_Ring) (dm_e (de_gcls g_TooMany) (dm_e (de_gcls g_Twice) dm_nil)))) dm_nil))) dm_nil))))))))))
 (dss_cons (ds_lmut (fun ha => pe_bm PySem.F.plainAttrs_list PySem.F.slot_list_append PySem.F.type_list_append mt_append (pv 2) ha) rf_append (dm_e de_str dm_nil))
 (dss_cons (ds_if (dt_cmp op_notN rf_notN (dr_var 3) (DE.r de_non) (nomark _)) (dss_one (ds_lmut (fun ha => pe_bm PySem.F.plainAttrs_list PySem.F.slot_list_append PySem.F.type_list_append mt_append (pv 3) ha) rf_append (dm_e de_str dm_nil))) dss_nil)
 (dss_cons (ds_if (dt_cmp op_isN rf_isN (dr_var 4) (DE.r de_non) (nomark _)) (dss_one (ds_ret (de_tup (dm_e de_non (dm_e (de_cmp (op_eqA hr) rf_eq (dr_var 5) (DE.r (DN.fz (dn_lst (dm_e de_bl (dm_e de_bl (dm_e de_bl (dm_e de_bl (dm_e de_bl dm_nil)))))))) (nomark _)) dm_nil))))) dss_nil)
 (dss_one (ds_ret (de_tup (dm_e (de_var 4) (dm_e de_bl dm_nil))))))))))))))) spec
theorem sc_l_is_name : FnScope ["_law_text", "_law_some", "_law_sign"] ["_law_text"] (defScope s_l_is_name) := ⟨rfl, rfl, rfl, by decide +kernel, rfl, by decide +kernel, by decide +kernel⟩
theorem ok_l_is_name {B : Bx} {base : Heap} {j : Nat} {f : Addr} {fd : FuncData} {sp : SpM} (n_len : B.mg "len" = none) (F : FunD B.K "_law_is_name" "_law_is_name" (defArgs s_l_is_name) (defBody s_l_is_name) (defScope s_l_is_name) [] [] f fd)
    (spec : ∀ ds M Q E, sp ds M Q E → t_l_is_name (endsOf Q E) (startE [false] 3 ds) M) : FnB B base (j + 1) f fd ["_law_text"] [false] sp :=
  fnok_of F sc_l_is_name (fun cdv A outer s H E hr tk hp =>
 (dss_cons (ds_set (i := 1) sc_l_is_name.nd de_str)
 (dss_cons (ds_for hp rfl (di_any (de_var 0)) (dg_name (i := 2) sc_l_is_name.nd) (dss_one (ds_if (dt_cmp (op_notInA hr) rf_notIn (dr_var 2) (dr_var 1) (by rfl)) (dss_one (ds_ret de_bl)) dss_nil)))
 (dss_one (ds_ret (de_chain op_le rf_le op_le rf_le (DE.r de_int) (DE.r (de_callB call_lenA rf_len n_len (dm_r (dr_var 0) dm_nil))) (DE.r de_int))))))) spec
theorem sc_l_is_word : FnScope ["_law_text"] ["_law_text"] (defScope s_l_is_word) := ⟨rfl, rfl, rfl, by decide +kernel, rfl, by decide +kernel, by decide +kernel⟩
theorem ok_l_is_word {B : Bx} {base : Heap} {j : Nat} {f : Addr} {fd : FuncData} {sp : SpM} {p_l_is_name : SpM} (h_l_is_name : Fn B base j "_law_is_name" [false] p_l_is_name) (F : FunD B.K "_law_is_word" "_law_is_word" (defArgs s_l_is_word) (defBody s_l_is_word) (defScope s_l_is_word) [] [] f fd)
    (spec : ∀ ds M Q E, sp ds M Q E → t_l_is_word p_l_is_name (endsOf Q E) (startE [false] 1 ds) M) : FnB B base (j + 1) f fd ["_law_text"] [false] sp :=
  fnok_of F sc_l_is_word (fun cdv A outer s H E hr tk hp =>
 (dss_one (ds_ret (de_and (de_call h_l_is_name hr tk (Nat.le_refl _) (dm_e (de_var 0) dm_nil)) (de_one (de_cmp (op_notInA hr) rf_notIn (DE.r (de_ix hr (dr_var 0) (DE.r de_int))) (DE.r de_str) (by rfl))))))) spec
theorem sc_l_is_kind : FnScope ["_law_text"] ["_law_text"] (defScope s_l_is_kind) := ⟨rfl, rfl, rfl, by decide +kernel, rfl, by decide +kernel, by decide +kernel⟩
theorem ok_l_is_kind {B : Bx} {base : Heap} {j : Nat} {f : Addr} {fd : FuncData} {sp : SpM} {p_l_is_name : SpM} (h_l_is_name : Fn B base j "_law_is_name" [false] p_l_is_name) (F : FunD B.K "_law_is_kind" "_law_is_kind" (defArgs s_l_is_kind) (defBody s_l_is_kind) (defScope s_l_is_kind) [] [] f fd)
    (spec : ∀ ds M Q E, sp ds M Q E → t_l_is_kind p_l_is_name (endsOf Q E) (startE [false] 1 ds) M) : FnB B base (j + 1) f fd ["_law_text"] [false] sp :=
  fnok_of F sc_l_is_kind (fun cdv A outer s H E hr tk hp =>
 (dss_one (ds_ret (de_and (de_call h_l_is_name hr tk (Nat.le_refl _) (dm_e (de_var 0) dm_nil)) (de_one (de_cmp (op_inA hr) rf_in (DE.r (de_ix hr (dr_var 0) (DE.r de_int))) (DE.r de_str) (by rfl))))))) spec
theorem sc_l_good : FnScope ["_law_row_here", "_law_part", "_law_title"] ["_law_row_here"] (defScope s_l_good) := ⟨rfl, rfl, rfl, by decide +kernel, rfl, by decide +kernel, by decide +kernel⟩
theorem ok_l_good {B : Bx} {base : Heap} {j : Nat} {f : Addr} {fd : FuncData} {sp : SpM} {p_l_is_word : SpM} {p_l_is_kind : SpM} {p_l_is_name : SpM} (n_len : B.mg "len" = none) (n_all : B.mg "all" = none) (h_l_is_word : Fn B base j "_law_is_word" [false] p_l_is_word) (h_l_is_kind : Fn B base j "_law_is_kind" [false] p_l_is_kind) (h_l_is_name : Fn B base j "_law_is_name" [false] p_l_is_name) (F : FunD B.K "_law_good" "_law_good" (defArgs s_l_good) (defBody s_l_good) (defScope s_l_good) [] [] f fd)
    (spec : ∀ ds M Q E, sp ds M Q E → t_l_good p_l_is_word p_l_is_kind p_l_is_name (endsOf Q E) (startE [false] 3 ds) M) : FnB B base (j + 1) f fd ["_law_row_here"] [false] sp :=
  fnok_of F sc_l_good (fun cdv A outer s H E hr tk hp =>
 (dss_cons (ds_if (DW.t (dw_or (dt_not (dt_tru (DE.r (de_call h_l_is_word hr tk (Nat.le_refl _) (dm_e (de_ix hr (dr_var 0) (DE.r de_int)) dm_nil))))) (dw_or (dt_not (dt_tru (DE.r (de_call h_l_is_kind hr tk (Nat.le_refl _) (dm_e (de_ix hr (dr_var 0) (DE.r de_int)) dm_nil))))) (dw_or1 (dt_not (dt_chain op_le rf_le op_le rf_le (DE.r de_int) (DE.r (de_callB call_lenA rf_len n_len (dm_r (DE.r (de_ix hr (dr_var 0) (DE.r de_int))) dm_nil))) (DE.r de_int))))))) (dss_one (ds_ret de_bl)) dss_nil)
 (dss_cons (ds_if (DW.t (dw_or (dt_not (dt_tru (DE.r (de_callB (cr_all rfl) rf_all n_all (dm_r (DE.r (DN.fz (dn_lcS (own := [("_law_part", 1)]) sc_l_good.nd (de_ix hr (dr_var 0) (DE.r de_int)) (blkOk_by (own := [("_law_part", 1)]) (N := ["_law_row_here", "_law_part", "_law_title"]) (sc := defScope s_l_good) (by decide +kernel)) (fun _ => (dgk_name (i := 1) sc_l_good.nd)) (fun _ => dts_nil) (fun _ => (de_call h_l_is_name hr takes0 (Nat.le_refl _) (dm_e (de_var 1) dm_nil)))))) dm_nil))))) (dw_or1 (DW.t (dw_and (dt_cmp (op_neA hr) rf_ne (DE.r (de_ix hr (dr_var 0) (DE.r de_int))) (DE.r de_str) (nomark _)) (dw_and1 (dt_not (dt_tru (DE.r (de_call h_l_is_word hr tk (Nat.le_refl _) (dm_e (de_ix hr (dr_var 0) (DE.r de_int)) dm_nil))))))))))) (dss_one (ds_ret de_bl)) dss_nil)
 (dss_one (ds_ret (de_or (de_cmp op_isN rf_isN (DE.r (de_ix hr (dr_var 0) (DE.r de_int))) (DE.r de_non) (nomark _)) (de_one (de_and (de_cmp op_gt rf_gt (DE.r (de_callB call_lenA rf_len n_len (dm_r (DE.r (de_ix hr (dr_var 0) (DE.r de_int))) dm_nil))) (DE.r de_int) (nomark _)) (de_one (de_callB (cr_all rfl) rf_all n_all (dm_r (DE.r (DN.fz (dn_lcS (own := [("_law_title", 2)]) sc_l_good.nd (de_ix hr (dr_var 0) (DE.r de_int)) (blkOk_by (own := [("_law_title", 2)]) (N := ["_law_row_here", "_law_part", "_law_title"]) (sc := defScope s_l_good) (by decide +kernel)) (fun _ => (dgk_name (i := 2) sc_l_good.nd)) (fun _ => dts_nil) (fun _ => (de_call h_l_is_word hr takes0 (Nat.le_refl _) (dm_e (de_var 2) dm_nil)))))) dm_nil))))))))))) spec
theorem sc_l_is : FnScope ["_law_rule", "_law_row_here"] ["_law_rule", "_law_row_here"] (defScope s_l_is) := ⟨rfl, rfl, rfl, by decide +kernel, rfl, by decide +kernel, by decide +kernel⟩
theorem ok_l_is {B : Bx} {base : Heap} {j : Nat} {f : Addr} {fd : FuncData} {sp : SpM} (fl_title : FldF B "title" ["Rule"]) (fl_head : FldF B "head" ["Rule"]) (fl_weight : FldF B "weight" ["Rule"]) (fl_tag : FldF B "tag" ["Rule"]) (fl_parts : FldF B "parts" ["Rule"]) (n_isinstance : B.mg "isinstance" = none) (n_tuple : B.mg "tuple" = none) (fl_under : FldF B "under" ["Rule"]) (F : FunD B.K "_law_is" "_law_is" (defArgs s_l_is) (defBody s_l_is) (defScope s_l_is) [] [] f fd)
    (spec : ∀ ds M Q E, sp ds M Q E → t_l_is (endsOf Q E) (startE [false, false] 2 ds) M) : FnB B base (j + 1) f fd ["_law_rule", "_law_row_here"] [false, false] sp :=
  fnok_of F sc_l_is (fun cdv A outer s H E hr tk hp =>
 (dss_cons (ds_if (DW.t (dw_or (dt_cmp (op_neA hr) rf_ne (DE.r (de_fld fl_title (dr_var 0))) (DE.r (de_ix hr (dr_var 1) (DE.r de_int))) (nomark _)) (dw_or (dt_cmp (op_neA hr) rf_ne (DE.r (de_fld fl_head (dr_var 0))) (DE.r (de_ix hr (dr_var 1) (DE.r de_int))) (nomark _)) (dw_or (dt_cmp (op_neA hr) rf_ne (DE.r (de_fld fl_weight (dr_var 0))) (DE.r (de_ix hr (dr_var 1) (DE.r de_int))) (nomark _)) (dw_or1 (dt_cmp (op_neA hr) rf_ne (DE.r (de_fld fl_tag (dr_var 0))) (DE.r (de_ix hr (dr_var 1) (DE.r de_int))) (nomark _))))))) (dss_one (ds_ret de_bl)) dss_nil)
 (dss_cons (ds_if (DW.t (dw_or (dt_not (dt_tru (DE.r (de_callB call_isi (rf_isi isi_tuple) n_isinstance (dm_r (DE.r (de_fld fl_parts (dr_var 0))) (dm_e (de_gty n_tuple) dm_nil)))))) (dw_or1 (dt_cmp (op_neA hr) rf_ne (DE.r (de_fld fl_parts (dr_var 0))) (DE.r (de_callTy call_tuple_of rf_tuple1 n_tuple (dm_r (DE.r (de_ix hr (dr_var 1) (DE.r de_int))) dm_nil))) (nomark _))))) (dss_one (ds_ret de_bl)) dss_nil)
 (dss_cons (ds_if (dt_cmp op_isN rf_isN (DE.r (de_ix hr (dr_var 1) (DE.r de_int))) (DE.r de_non) (nomark _)) (dss_one (ds_ret (de_cmp op_isN rf_isN (DE.r (de_fld fl_under (dr_var 0))) (DE.r de_non) (nomark _)))) dss_nil)
 (dss_one (ds_ret (de_and (de_callB call_isi (rf_isi isi_tuple) n_isinstance (dm_r (DE.r (de_fld fl_under (dr_var 0))) (dm_e (de_gty n_tuple) dm_nil))) (de_one (de_cmp (op_eqA hr) rf_eq (DE.r (de_fld fl_under (dr_var 0))) (DE.r (de_callTy call_tuple_of rf_tuple1 n_tuple (dm_r (DE.r (de_ix hr (dr_var 1) (DE.r de_int))) dm_nil))) (nomark _)))))))))) spec
theorem sc_law_k08 : FnScope ["_law_script", "_law_names_here", "_law_held", "_law_cell", "_law_row_here", "_law_number", "_law_k", "_law_made_here", "_law_rule"] ["_law_script"] (defScope s_law_k08) := ⟨rfl, rfl, rfl, by decide +kernel, rfl, by decide +kernel, by decide +kernel⟩
theorem ok_law_k08 {B : Bx} {base : Heap} {j : Nat} {f : Addr} {fd : FuncData} {sp : SpM} {p_l_names : SpM} {p_l_at : SpM} {p_l_row : SpM} {p_l_mix : SpM} {p_l_faulty : SpM} {p_l_made : SpM} {p_l_good : SpM} {p_l_is : SpM} (n_range : B.mg "range" = none) (n_all : B.mg "all" = none) (h_l_names : Fn B base j "_law_names" [false, false, false] p_l_names) (h_l_at : Fn B base j "_law_at" [false, false] p_l_at) (h_l_row : Fn B base j "_law_row" [false, false] p_l_row) (h_l_mix : Fn B base j "_law_mix" [false, false] p_l_mix) (h_l_faulty : Fn B base j "_law_faulty" [false, false] p_l_faulty) (h_l_made : Fn B base j "_law_made" [false, false] p_l_made) (h_l_good : Fn B base j "_law_good" [false] p_l_good) (h_l_is : Fn B base j "_law_is" [false, false] p_l_is) (F : FunD B.K "law" "law" (defArgs s_law_k08) (defBody s_law_k08) (defScope s_law_k08) [] [] f fd)
    (spec : ∀ ds M Q E, sp ds M Q E → t_law_k08 p_l_names p_l_at p_l_row p_l_mix p_l_faulty p_l_made p_l_good p_l_is (endsW Q E) (startE [false] 9 ds) M) : FnB B base (j + 1) f fd ["_law_script"] [false] sp :=
  fnok_ofW F sc_law_k08 (fun cdv A outer s H E hr tk hp =>
 (dss_cons (ds_own (i := 1) sc_law_k08.nd (dn_lst (dm_e (de_call h_l_names hr tk (Nat.le_refl _) (dm_e (de_call h_l_at hr tk (Nat.le_refl _) (dm_e (de_var 0) (dm_e de_int dm_nil))) (dm_e de_int (dm_e de_str dm_nil)))) dm_nil)))
 (dss_cons (ds_lmut (fun ha => pe_bm PySem.F.plainAttrs_list PySem.F.slot_list_append PySem.F.type_list_append mt_append (pv 1) ha) rf_append (dm_e (de_call h_l_names hr tk (Nat.le_refl _) (dm_e (de_call h_l_at hr tk (Nat.le_refl _) (dm_e (de_var 0) (dm_e de_int dm_nil))) (dm_e de_int (dm_e de_str dm_nil)))) dm_nil))
 (dss_cons (ds_lmut (fun ha => pe_bm PySem.F.plainAttrs_list PySem.F.slot_list_append PySem.F.type_list_append mt_append (pv 1) ha) rf_append (dm_e (de_call h_l_names hr tk (Nat.le_refl _) (dm_e (de_call h_l_at hr tk (Nat.le_refl _) (dm_e (de_var 0) (dm_e de_int dm_nil))) (dm_e de_int (dm_e de_str dm_nil)))) dm_nil))
 (dss_cons (ds_own (i := 2) sc_law_k08.nd (dn_lst dm_nil))
 (dss_cons (ds_for hp rfl (di_any (de_sl (dr_var 0) (do_some (DE.r de_int)) (do_some (DE.r de_int)))) (dg_name (i := 3) sc_law_k08.nd) (dss_cons (ds_frz 1 (ds_set (i := 4) sc_law_k08.nd (de_call h_l_row hr tk (Nat.le_refl _) (dm_e (de_var 3) (dm_e (de_var 1) dm_nil)))))
 (dss_cons (ds_set (i := 5) sc_law_k08.nd (de_call h_l_mix hr tk (Nat.le_refl _) (dm_e (de_var 3) (dm_e de_int dm_nil))))
 (dss_cons (ds_for hp rfl (di_range1 n_range (dm_r (DE.r (de_ix hr (DE.r (de_tup (dm_e de_int (dm_e de_int (dm_e de_int (dm_e de_int (dm_e de_int (dm_e de_int dm_nil)))))))) (DE.r (de_mod (dr_var 5) (DE.r de_int))))) dm_nil)) (dg_name (i := 6) sc_law_k08.nd) (dss_one (ds_expr (de_call h_l_faulty hr tk (Nat.le_refl _) (dm_e (de_var 4) (dm_e (de_fdiv (dr_var 5) (DE.r (de_add (DE.r de_int) (DE.r (de_mulA (DE.r de_int) (dr_var 6)))))) dm_nil))))))
 (dss_cons (ds_set (i := 7) sc_law_k08.nd (de_call h_l_made hr tk (Nat.le_refl _) (dm_e (de_var 4) (dm_e (de_call h_l_mix hr tk (Nat.le_refl _) (dm_e (de_var 3) (dm_e de_int dm_nil))) dm_nil))))
 (dss_one (ds_if (dt_tru (DE.r (de_call h_l_good hr tk (Nat.le_refl _) (dm_e (de_var 4) dm_nil)))) (dss_cons (ds_if (dt_cmp op_isN rf_isN (DE.r (de_ix hr (dr_var 7) (DE.r de_int))) (DE.r de_non) (nomark _)) (dss_one (ds_ret de_bl)) dss_nil)
 (dss_one (ds_lmut (fun ha => pe_bm PySem.F.plainAttrs_list PySem.F.slot_list_append PySem.F.type_list_append mt_append (pv 2) ha) rf_append (dm_e (de_tup (dm_e (de_ix hr (dr_var 7) (DE.r de_int)) (dm_e (de_var 4) dm_nil))) dm_nil)))) (dss_one (ds_if (dt_not (dt_tru (DE.r (de_ix hr (dr_var 7) (DE.r de_int))))) (dss_one (ds_ret de_bl)) dss_nil)))))))))
 (dss_one (ds_frz 2 (ds_ret (de_callB (cr_all rfl) rf_all n_all (dm_r (DE.r (DN.fz (dn_lc (own := [("_law_rule", 8), ("_law_row_here", 4)]) sc_law_k08.nd (di_any (de_var 2)) (blkOk_by (own := [("_law_rule", 8), ("_law_row_here", 4)]) (N := ["_law_script", "_law_names_here", "_law_held", "_law_cell", "_law_row_here", "_law_number", "_law_k", "_law_made_here", "_law_rule"]) (sc := defScope s_law_k08) (by decide +kernel)) (fun _ => (dgk_tup rfl (dgsk_cons (dgk_name (i := 8) sc_law_k08.nd) (dgsk_cons (dgk_name (i := 4) sc_law_k08.nd) dgsk_nil)))) (fun _ => dts_nil) (fun _ => (de_call h_l_is hr takes0 (Nat.le_refl _) (dm_e (de_var 8) (dm_e (de_var 4) dm_nil))))))) dm_nil))))))))))) spec
end K08
end Z
namespace Z
namespace K08
open PySem PySem.Spec PyProof.Rows L2
theorem facts {P : Program} {w : World} {K : PySem.W.Frag} {h : Heap} {mg : Str → Option Value} {f : Addr} (KX : K.In h) (G : h.Ns mainGlobals mg) (hfa : mg ("law" : Str) = some (.ref f)) (c : SaysZ fa fn ez K) :
    ∃ fd : FuncData, (∀ (s : Shared) (v : Value), BindsTo s fd ⟨[v], []⟩ [("_law_script", v)]) ∧ ∀ base : Heap, K.In base → base.Ns mainGlobals mg → FnOk P w K mg base (L2.CX P w) 7 f fd ["_law_script"] (liftSp ⟨P, w, K, mg⟩ [false] spLaw) := by
  obtain ⟨fd_law, F_law⟩ := c.d.def_ 17 (d := d_law_k08) rfl
  cases (hfa.symm.trans (He.glo_ok KX G (c.d.fact 16 (f := .glo "law") rfl)))
  have b := FunD.bindsA (ps := ["_law_script"]) F_law fun _ _ _ _ _ _ us hl => match us, hl with | [_], _ => rfl
  refine ⟨fd_law, fun s v => b s [v] rfl, fun base _ _ => ?_⟩
  obtain ⟨fd_l_mix, F_l_mix⟩ := c.d.def_ 0 (d := d_l_mix) rfl
  have b_l_mix := F_l_mix.bindsN (ps := ["_law_cell", "_law_k"]) fun _ _ _ _ _ _ us hl => match us, hl with | [_, _], _ => rfl
  have h_l_mix : Fn ⟨P, w, K, mg⟩ base 1 "_law_mix" [false, false] (pur sp_l_mix) := Fn.mk' F_l_mix (He.glo_ok KX G (c.d.fact 0 (f := .glo "_law_mix") rfl)) b_l_mix (ok_l_mix (j := 0)  F_l_mix r_l_mix)
  obtain ⟨fd_l_names, F_l_names⟩ := c.d.def_ 1 (d := d_l_names) rfl
  have b_l_names := F_l_names.bindsN (ps := ["_law_cell", "_law_many", "_law_firsts"]) fun _ _ _ _ _ _ us hl => match us, hl with | [_, _, _], _ => rfl
  have h_l_names : Fn ⟨P, w, K, mg⟩ base 2 "_law_names" [false, false, false] (pur sp_l_names) := Fn.mk' F_l_names (He.glo_ok KX G (c.d.fact 1 (f := .glo "_law_names") rfl)) b_l_names (ok_l_names (j := 1) (He.free_ok KX G (c.d.fact 17 (f := .free "len") rfl)) (He.free_ok KX G (c.d.fact 18 (f := .free "range") rfl)) (h_l_mix.up (by decide)) F_l_names r_l_names)
  obtain ⟨fd_l_at, F_l_at⟩ := c.d.def_ 2 (d := d_l_at) rfl
  have b_l_at := F_l_at.bindsN (ps := ["_law_script", "_law_k"]) fun _ _ _ _ _ _ us hl => match us, hl with | [_, _], _ => rfl
  have h_l_at : Fn ⟨P, w, K, mg⟩ base 1 "_law_at" [false, false] (pur sp_l_at) := Fn.mk' F_l_at (He.glo_ok KX G (c.d.fact 2 (f := .glo "_law_at") rfl)) b_l_at (ok_l_at (j := 0) (He.free_ok KX G (c.d.fact 17 (f := .free "len") rfl)) F_l_at r_l_at)
  obtain ⟨fd_l_row, F_l_row⟩ := c.d.def_ 3 (d := d_l_row) rfl
  have b_l_row := F_l_row.bindsN (ps := ["_law_cell", "_law_names_here"]) fun _ _ _ _ _ _ us hl => match us, hl with | [_, _], _ => rfl
  have h_l_row : Fn ⟨P, w, K, mg⟩ base 2 "_law_row" [false, false] (sp_l_row) := Fn.mk' F_l_row (He.glo_ok KX G (c.d.fact 3 (f := .glo "_law_row") rfl)) b_l_row (ok_l_row (j := 1) (He.free_ok KX G (c.d.fact 18 (f := .free "range") rfl)) (He.free_ok KX G (c.d.fact 17 (f := .free "len") rfl)) (h_l_mix.up (by decide)) F_l_row r_l_row)
  obtain ⟨fd_l_spoilt_k08, F_l_spoilt_k08⟩ := c.d.def_ 4 (d := d_l_spoilt_k08) rfl
  have b_l_spoilt_k08 := F_l_spoilt_k08.bindsN (ps := ["_law_text", "_law_number"]) fun _ _ _ _ _ _ us hl => match us, hl with | [_, _], _ => rfl
  have h_l_spoilt_k08 : Fn ⟨P, w, K, mg⟩ base 1 "_law_spoilt" [false, false] (pur sp_l_spoilt_k08) := Fn.mk' F_l_spoilt_k08 (He.glo_ok KX G (c.d.fact 4 (f := .glo "_law_spoilt") rfl)) b_l_spoilt_k08 (ok_l_spoilt_k08 (j := 0)  F_l_spoilt_k08 r_l_spoilt_k08)
  obtain ⟨fd_l_faulty, F_l_faulty⟩ := c.d.def_ 5 (d := d_l_faulty) rfl
  have b_l_faulty := F_l_faulty.bindsN (ps := ["_law_row_here", "_law_number"]) fun _ _ _ _ _ _ us hl => match us, hl with | [_, _], _ => rfl
  have h_l_faulty : Fn ⟨P, w, K, mg⟩ base 2 "_law_faulty" [false, false] (sp_l_faulty) := Fn.mk' F_l_faulty (He.glo_ok KX G (c.d.fact 5 (f := .glo "_law_faulty") rfl)) b_l_faulty (ok_l_faulty (j := 1) (He.free_ok KX G (c.d.fact 17 (f := .free "len") rfl)) (h_l_spoilt_k08.up (by decide)) F_l_faulty r_l_faulty)
  obtain ⟨fd_is_name, F_is_name⟩ := c.d.def_ 6 (d := d_is_name) rfl
  have b_is_name := F_is_name.bindsN (ps := ["text"]) fun _ _ _ _ _ _ us hl => match us, hl with | [_], _ => rfl
  have h_is_name : Fn ⟨P, w, K, mg⟩ base 1 "is_name" [false] (pur sp_is_name) := Fn.mk' F_is_name (He.glo_ok KX G (c.d.fact 6 (f := .glo "is_name") rfl)) b_is_name (ok_is_name (j := 0) (He.free_ok KX G (c.d.fact 17 (f := .free "len") rfl)) (He.str_ok KX G (c.d.fact 19 (f := .str "SMALL" "abcdefghijklmnopqrstuvwxyz") rfl)) (He.str_ok KX G (c.d.fact 20 (f := .str "GREAT" "ABCDEFGHIJKLMNOPQRSTUVWXYZ") rfl)) (He.str_ok KX G (c.d.fact 21 (f := .str "FIGURES" "0123456789") rfl)) F_is_name r_is_name)
  obtain ⟨fd_is_word, F_is_word⟩ := c.d.def_ 7 (d := d_is_word) rfl
  have b_is_word := F_is_word.bindsN (ps := ["text"]) fun _ _ _ _ _ _ us hl => match us, hl with | [_], _ => rfl
  have h_is_word : Fn ⟨P, w, K, mg⟩ base 2 "is_word" [false] (pur sp_is_word) := Fn.mk' F_is_word (He.glo_ok KX G (c.d.fact 7 (f := .glo "is_word") rfl)) b_is_word (ok_is_word (j := 1) (He.str_ok KX G (c.d.fact 20 (f := .str "GREAT" "ABCDEFGHIJKLMNOPQRSTUVWXYZ") rfl)) (h_is_name.up (by decide)) F_is_word r_is_word)
  obtain ⟨fd_is_kind, F_is_kind⟩ := c.d.def_ 8 (d := d_is_kind) rfl
  have b_is_kind := F_is_kind.bindsN (ps := ["text"]) fun _ _ _ _ _ _ us hl => match us, hl with | [_], _ => rfl
  have h_is_kind : Fn ⟨P, w, K, mg⟩ base 2 "is_kind" [false] (pur sp_is_kind) := Fn.mk' F_is_kind (He.glo_ok KX G (c.d.fact 8 (f := .glo "is_kind") rfl)) b_is_kind (ok_is_kind (j := 1) (He.str_ok KX G (c.d.fact 20 (f := .str "GREAT" "ABCDEFGHIJKLMNOPQRSTUVWXYZ") rfl)) (h_is_name.up (by decide)) F_is_kind r_is_kind)
  obtain ⟨fd_all_words, F_all_words⟩ := c.d.def_ 9 (d := d_all_words) rfl
  have b_all_words := F_all_words.bindsN (ps := ["texts"]) fun _ _ _ _ _ _ us hl => match us, hl with | [_], _ => rfl
  have h_all_words : Fn ⟨P, w, K, mg⟩ base 3 "all_words" [true] (pur sp_all_words) := Fn.mk' F_all_words (He.glo_ok KX G (c.d.fact 9 (f := .glo "all_words") rfl)) b_all_words (ok_all_words (j := 2) (He.free_ok KX G (c.d.fact 22 (f := .free "all") rfl)) (h_is_word.up (by decide)) F_all_words r_all_words)
  obtain ⟨fd_Rule_init, F_Rule_init⟩ := c.d.def_ 10 (d := d_Rule_init) rfl
  have f_Rule_init : FnB ⟨P, w, K, mg⟩ base 4 _ fd_Rule_init ["self", "title", "head", "parts", "weight", "tag", "under"] [false, false, false, true, false, false, true] (sp_Rule_init) := ok_Rule_init (j := 3) (xcB_ok KX G (c.e 0 (f := xcB "NoRule") rfl)) (He.free_ok KX G (c.d.fact 17 (f := .free "len") rfl)) (He.free_ok KX G (c.d.fact 22 (f := .free "all") rfl)) (fldB_ok KX G (c.e 1 (f := fldB "title" ["Rule"]) rfl)) (fldB_ok KX G (c.e 2 (f := fldB "head" ["Rule"]) rfl)) (fldB_ok KX G (c.e 3 (f := fldB "parts" ["Rule"]) rfl)) (He.free_ok KX G (c.d.fact 23 (f := .free "tuple") rfl)) (fldB_ok KX G (c.e 4 (f := fldB "weight" ["Rule"]) rfl)) (fldB_ok KX G (c.e 5 (f := fldB "tag" ["Rule"]) rfl)) (fldB_ok KX G (c.e 6 (f := fldB "under" ["Rule"]) rfl)) (h_is_word.up (by decide)) (h_is_kind.up (by decide)) (h_is_name.up (by decide)) (h_all_words.up (by decide)) F_Rule_init r_Rule_init
  have h_Rule_2 : MkF ⟨P, w, K, mg⟩ base 4 "Rule" (false :: ([false, false, true, false] ++ [false, true])) [.str "", .non] (sp_Rule_init) := MkF.mk' KX G (c.e 24 (f := mkB "Rule") rfl) (F_Rule_init.binds1 (ps := ["self", "title", "head", "parts", "weight", "tag", "under"]) 5 0 (List.cons_ne_nil _ _) rfl fun _ _ _ _ _ _ _ us its hl hi => match us, hl, its, hi with | [_, _, _, _, _], _, [_, _], _ => ⟨_, rfl, rfl⟩) (fun _ => (.cons (.str "") (.cons (.non) .nil))) f_Rule_init
  have h_Rule_1 : MkF ⟨P, w, K, mg⟩ base 4 "Rule" (false :: ([false, false, true, false, false] ++ [true])) [.non] (sp_Rule_init) := MkF.mk' KX G (c.e 24 (f := mkB "Rule") rfl) (F_Rule_init.binds1 (ps := ["self", "title", "head", "parts", "weight", "tag", "under"]) 6 1 (List.cons_ne_nil _ _) rfl fun _ _ _ _ _ _ _ us its hl hi => match us, hl, its, hi with | [_, _, _, _, _, _], _, [_, _], _ => ⟨_, rfl, rfl⟩) (fun _ => (.cons (.non) .nil)) f_Rule_init
  have h_Rule_0 : MkF ⟨P, w, K, mg⟩ base 4 "Rule" (false :: ([false, false, true, false, false, true] ++ [])) [] (sp_Rule_init) := MkF.mk' KX G (c.e 24 (f := mkB "Rule") rfl) (F_Rule_init.binds1 (ps := ["self", "title", "head", "parts", "weight", "tag", "under"]) 7 2 (List.cons_ne_nil _ _) rfl fun _ _ _ _ _ _ _ us its hl hi => match us, hl, its, hi with | [_, _, _, _, _, _, _], _, [_, _], _ => ⟨_, rfl, rfl⟩) (fun _ => .nil) f_Rule_init
  obtain ⟨fd_l_made, F_l_made⟩ := c.d.def_ 11 (d := d_l_made) rfl
  have b_l_made := F_l_made.bindsN (ps := ["_law_row_here", "_law_m"]) fun _ _ _ _ _ _ us hl => match us, hl with | [_, _], _ => rfl
  have h_l_made : Fn ⟨P, w, K, mg⟩ base 6 "_law_made" [false, false] (sp_l_made) := Fn.mk' F_l_made (He.glo_ok KX G (c.d.fact 10 (f := .glo "_law_made") rfl)) b_l_made (ok_l_made (j := 5) (He.free_ok KX G (c.d.fact 24 (f := .free "list") rfl)) (excB_ok KX G (c.e 7 (f := excB "WoodError" ["WoodError", "NoLine", "NoScale", "NoRule", "NoWeight", "Twice", "NoTitle", "NoKind", "Ring", "NoNet", "TooMany", "NoTree"] []) rfl)) (He.free_ok KX G (c.d.fact 23 (f := .free "tuple") rfl)) (gB_mg KX G (c.e 8 (f := gB "NoRule") rfl)) (isB_ok KX G (c.e 9 (f := isB [.cls "NoRule"] [("NoneType", false)] [("WoodError", false), ("NoLine", false), ("NoScale", false), ("NoRule", true), ("NoWeight", false), ("Twice", false), ("NoTitle", false), ("NoKind", false), ("Ring", false), ("NoNet", false), ("TooMany", false), ("NoTree", false)] []) rfl)) (He.free_ok KX G (c.d.fact 25 (f := .free "isinstance") rfl)) (He.free_ok KX G (c.d.fact 26 (f := .free "ValueError") rfl)) (isB_ok KX G (c.e 10 (f := isB [.ty "ValueError"] [("NoneType", false)] [("WoodError", true), ("NoLine", true), ("NoScale", true), ("NoRule", true), ("NoWeight", true), ("Twice", true), ("NoTitle", true), ("NoKind", true), ("Ring", true), ("NoNet", true), ("TooMany", true), ("NoTree", true)] []) rfl)) (gB_mg KX G (c.e 11 (f := gB "NoKind") rfl)) (gB_mg KX G (c.e 12 (f := gB "NoLine") rfl)) (gB_mg KX G (c.e 13 (f := gB "NoNet") rfl)) (gB_mg KX G (c.e 14 (f := gB "NoScale") rfl)) (isB_ok KX G (c.e 15 (f := isB [.cls "NoKind", .cls "NoLine", .cls "NoNet", .cls "NoScale"] [("NoneType", false)] [("WoodError", false), ("NoLine", true), ("NoScale", true), ("NoRule", false), ("NoWeight", false), ("Twice", false), ("NoTitle", false), ("NoKind", true), ("Ring", false), ("NoNet", true), ("TooMany", false), ("NoTree", false)] []) rfl)) (gB_mg KX G (c.e 16 (f := gB "NoTitle") rfl)) (gB_mg KX G (c.e 17 (f := gB "NoTree") rfl)) (gB_mg KX G (c.e 18 (f := gB "NoWeight") rfl)) (isB_ok KX G (c.e 19 (f := isB [.cls "NoTitle", .cls "NoTree", .cls "NoWeight"] [("NoneType", false)] [("WoodError", false), ("NoLine", false), ("NoScale", false), ("NoRule", false), ("NoWeight", true), ("Twice", false), ("NoTitle", true), ("NoKind", false), ("Ring", false), ("NoNet", false), ("TooMany", false), ("NoTree", true)] []) rfl)) (gB_mg KX G (c.e 20 (f := gB "Ring") rfl)) (gB_mg KX G (c.e 21 (f := gB "TooMany") rfl)) (gB_mg KX G (c.e 22 (f := gB "Twice") rfl)) (isB_ok KX G (c.e 23 (f := isB [.cls "Ring", .cls "TooMany", .cls "Twice"] [("NoneType", false)] [("WoodError", false), ("NoLine", false), ("NoScale", false), ("NoRule", false), ("NoWeight", false), ("Twice", true), ("NoTitle", false), ("NoKind", false), ("Ring", true), ("NoNet", false), ("TooMany", true), ("NoTree", false)] []) rfl)) (h_Rule_2.up (j := 4) (by decide)) (h_Rule_1.up (j := 4) (by decide)) (h_Rule_0.up (j := 4) (by decide)) (by decide) F_l_made r_l_made)
  obtain ⟨fd_l_is_name, F_l_is_name⟩ := c.d.def_ 12 (d := d_l_is_name) rfl
  have b_l_is_name := F_l_is_name.bindsN (ps := ["_law_text"]) fun _ _ _ _ _ _ us hl => match us, hl with | [_], _ => rfl
  have h_l_is_name : Fn ⟨P, w, K, mg⟩ base 1 "_law_is_name" [false] (pur sp_l_is_name) := Fn.mk' F_l_is_name (He.glo_ok KX G (c.d.fact 11 (f := .glo "_law_is_name") rfl)) b_l_is_name (ok_l_is_name (j := 0) (He.free_ok KX G (c.d.fact 17 (f := .free "len") rfl)) F_l_is_name r_l_is_name)
  obtain ⟨fd_l_is_word, F_l_is_word⟩ := c.d.def_ 13 (d := d_l_is_word) rfl
  have b_l_is_word := F_l_is_word.bindsN (ps := ["_law_text"]) fun _ _ _ _ _ _ us hl => match us, hl with | [_], _ => rfl
  have h_l_is_word : Fn ⟨P, w, K, mg⟩ base 2 "_law_is_word" [false] (pur sp_l_is_word) := Fn.mk' F_l_is_word (He.glo_ok KX G (c.d.fact 12 (f := .glo "_law_is_word") rfl)) b_l_is_word (ok_l_is_word (j := 1) (h_l_is_name.up (by decide)) F_l_is_word r_l_is_word)
  obtain ⟨fd_l_is_kind, F_l_is_kind⟩ := c.d.def_ 14 (d := d_l_is_kind) rfl
  have b_l_is_kind := F_l_is_kind.bindsN (ps := ["_law_text"]) fun _ _ _ _ _ _ us hl => match us, hl with | [_], _ => rfl
  have h_l_is_kind : Fn ⟨P, w, K, mg⟩ base 2 "_law_is_kind" [false] (pur sp_l_is_kind) := Fn.mk' F_l_is_kind (He.glo_ok KX G (c.d.fact 13 (f := .glo "_law_is_kind") rfl)) b_l_is_kind (ok_l_is_kind (j := 1) (h_l_is_name.up (by decide)) F_l_is_kind r_l_is_kind)
  obtain ⟨fd_l_good, F_l_good⟩ := c.d.def_ 15 (d := d_l_good) rfl
  have b_l_good := F_l_good.bindsN (ps := ["_law_row_here"]) fun _ _ _ _ _ _ us hl => match us, hl with | [_], _ => rfl
  have h_l_good : Fn ⟨P, w, K, mg⟩ base 3 "_law_good" [false] (sp_l_good) := Fn.mk' F_l_good (He.glo_ok KX G (c.d.fact 14 (f := .glo "_law_good") rfl)) b_l_good (ok_l_good (j := 2) (He.free_ok KX G (c.d.fact 17 (f := .free "len") rfl)) (He.free_ok KX G (c.d.fact 22 (f := .free "all") rfl)) (h_l_is_word.up (by decide)) (h_l_is_kind.up (by decide)) (h_l_is_name.up (by decide)) F_l_good r_l_good)
  obtain ⟨fd_l_is, F_l_is⟩ := c.d.def_ 16 (d := d_l_is) rfl
  have b_l_is := F_l_is.bindsN (ps := ["_law_rule", "_law_row_here"]) fun _ _ _ _ _ _ us hl => match us, hl with | [_, _], _ => rfl
  have h_l_is : Fn ⟨P, w, K, mg⟩ base 1 "_law_is" [false, false] (sp_l_is) := Fn.mk' F_l_is (He.glo_ok KX G (c.d.fact 15 (f := .glo "_law_is") rfl)) b_l_is (ok_l_is (j := 0) (fldB_ok KX G (c.e 1 (f := fldB "title" ["Rule"]) rfl)) (fldB_ok KX G (c.e 2 (f := fldB "head" ["Rule"]) rfl)) (fldB_ok KX G (c.e 4 (f := fldB "weight" ["Rule"]) rfl)) (fldB_ok KX G (c.e 5 (f := fldB "tag" ["Rule"]) rfl)) (fldB_ok KX G (c.e 3 (f := fldB "parts" ["Rule"]) rfl)) (He.free_ok KX G (c.d.fact 25 (f := .free "isinstance") rfl)) (He.free_ok KX G (c.d.fact 23 (f := .free "tuple") rfl)) (fldB_ok KX G (c.e 6 (f := fldB "under" ["Rule"]) rfl)) F_l_is r_l_is)
  exact (ok_law_k08 (B := ⟨P, w, K, mg⟩) (base := base) (j := 6) (He.free_ok KX G (c.d.fact 18 (f := .free "range") rfl)) (He.free_ok KX G (c.d.fact 22 (f := .free "all") rfl)) (h_l_names.up (by decide)) (h_l_at.up (by decide)) (h_l_row.up (by decide)) (h_l_mix.up (by decide)) (h_l_faulty.up (by decide)) (h_l_made.up (by decide)) (h_l_good.up (by decide)) (h_l_is.up (by decide)) F_law r_law_k08 : FnB ⟨P, w, K, mg⟩ base 7 _ _ _ _ _)
end K08
end Z
open PySem PySem.W PySem.Calls PyProof.Rows
set_option maxRecDepth 100000 in
set_option maxHeartbeats 0 in
theorem PySem.Challenge.cw_kbestwood_k08_a_rule_holds : PySem.Challenge.rw_kbestwood_k08_a_rule.Holds := by
  refine Z.K08.lawE ?_
  refine Z.walkZ (l := PySem.Challenge.rw_kbestwood_k08_a_rule) (k := 7) (x := "_law_script") rfl (by kernel_rfl) ⟨rfl, by decide, by decide⟩ ?F
  intro w mg fa h Y G hmg0
  obtain ⟨K, KX, c⟩ := Y
  have hmg : mg ("law" : PySem.Str) = some (.ref fa) := by
    have e : (HandSHeadRun.topDef (OpenLaw.row PySem.Challenge.rw_kbestwood_k08_a_rule).prog 35).name = ("law" : PySem.Str) := by kernel_rfl
    rw [← e]
    exact hmg0
  obtain ⟨fd, hb, hF⟩ := Z.K08.facts (P := (PySem.Challenge.rw_kbestwood_k08_a_rule).prog) (w := w) KX G hmg c
  exact ⟨K, fd, _, KX, hb, fun H a ns hl hS => Z.law_ok (B := ⟨(PySem.Challenge.rw_kbestwood_k08_a_rule).prog, w, K, mg⟩) H a ns hl hS, hF⟩
